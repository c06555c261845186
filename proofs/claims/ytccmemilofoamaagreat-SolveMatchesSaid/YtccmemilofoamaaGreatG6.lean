/-
  The references: div The references: Sign, Neg, Abs, Add, Mul, Cmp of integers The references: Gcd, Div, Cmp of integers Regions that draw their order, with cells of their own that are known apart (printed by mkkv.py) The references: rational numbers: one, den, num, over, Least, Add, Mul, Neg, Sub, Sign, Cmp The references: rational numbers: Least, Add, Mul, Neg, Sub, Sign, Cmp The references: ref02 Sub, Cmp; vectors: At, Combine, Add, Scale, Dot The references: vectors: Combine, Add, Scale, Dot The references: matrices: At, row, place, made The references: matrices: place of a product, made, Mul, Turn, Beside The references: matrices: Mul, Turn, Beside, Times, Add The references: matrices: Add, Scale, Left The references: matrices: Left mat.Scale The laws' own copies: Own The laws' own copies: vectors and matrices Matrices with their bounds; the algebra of matrices: plain. law 04: MatRing law 05: long, tall; the references Of, Ints; vec.Sign law 05: the numbers of the examples law 05: alive; SolveExamples Solutions of linear equations: plain.
-/
import Derived.Test.YtccmemilofoamaaGreatG5
set_option linter.unusedVariables false
namespace Go.Kx
theorem hds_ge {n : Nat} (h : n ≠ 0) : 65536 ^ ((hds n).length - 1) ≤ n := by
  induction n using Nat.strongRecOn with
  | ind n ih =>
    rw [hds_pos h, List.length_cons, Nat.add_sub_cancel]
    by_cases h1 : n / 65536 = 0
    · rw [h1, hds_zero]; simp; omega
    · have := ih (n / 65536) (by omega) h1
      have hl : (hds (n / 65536)).length ≠ 0 := fun e => h1 (hds_eq_nil.1 (List.length_eq_zero_iff.1 e))
      obtain ⟨m, hm⟩ : ∃ m, (hds (n / 65536)).length = m + 1 := ⟨_, (Nat.succ_pred_eq_of_ne_zero hl).symm⟩
      rw [hm] at this ⊢
      rw [Nat.add_sub_cancel] at this
      rw [Nat.pow_succ]
      have := Nat.mul_le_mul_right 65536 this
      omega
theorem valH_set_drop {l : List Nat} {i q : Nat} (h : i < l.length) : valH ((l.set i q).drop i) = q + 65536 * valH (l.drop (i + 1)) := by
  rw [valH_drop (by simpa using h)]
  have h1 : (l.set i q).getD i 0 = q := by rw [List.getD_eq_getElem?_getD, List.getElem?_set_self h]; rfl
  have h2 : (l.set i q).drop (i + 1) = l.drop (i + 1) := by rw [List.drop_set]; simp
  rw [h1, h2]
/-- one step of a long division -/
theorem div_step {D d x R Q : Nat} (hd : 0 < d) (hQ : Q = D / d) (hR : R = D % d) : (x + 65536 * D) / d = (x + 65536 * R) / d + 65536 * Q ∧ (x + 65536 * D) % d = (x + 65536 * R) % d := by
  have h1 := Nat.div_add_mod D d
  rw [← hQ, ← hR] at h1
  have h2 : x + 65536 * D = (x + 65536 * R) + d * (65536 * Q) := by
    rw [← h1, Nat.mul_add]
    have : 65536 * (d * Q) = d * (65536 * Q) := by rw [← Nat.mul_assoc, Nat.mul_comm 65536 d, Nat.mul_assoc]
    omega
  rw [h2, Nat.add_mul_div_left _ _ hd, Nat.add_mul_mod_self_left]
  exact ⟨rfl, rfl⟩
end Go.Kx
namespace Go.Proofs.YtccmemilofoamaaGreat
open Go Go.Kx Go.RowKit

theorem v_ixA {P : Program} {σ : Env} {w : World} {dd : Option Tmp} {ty : TypeId} {pos : String} {af : Array Edge} {gd : Option (Nat × Bool)} {t e : TypeId} {x ix : Operand} {k : IntKind} {i : Nat} {b : Bool} {sz n c : Nat} {ad : Addr} (ht : P.underlying t = some (.slice e)) (he : tyOf P e = some (b, sz)) (hx : ev σ x = some (.slice (some ad) n c))
    (hi : ev σ ix = some (.int k (i : Int))) (hlt : i < n) : Vl P ⟨dd, .indexAddr t x ix, ty, pos, af, gd⟩ σ w (.pointer (some (ad.add (i * sz)))) := by
  refine ⟨(by intro _ h; cases h), fun ρ hρ => ?_⟩
  have h1 := hρ x _ (by simp [Op.operands]) hx
  have h2 := hρ ix _ (by simp [Op.operands]) hi
  simp [execOp, h1, h2, Instr.indexAt, asIntOf, run_underlying ht, (tyOf_agg he w).2]
  intro hh; omega
theorem zero_H {S : Nat → Prop} {w : World} : eH.R S w (.int .i64 0) 0 := ⟨rfl, by decide⟩
theorem FBH_dig {S : Nat → Prop} {w : World} {t : TypeId} {g : Nat} {l : List Nat} (h : FB eH t S w g l) : digH l := by
  intro x hx
  obtain ⟨es, _, he⟩ := h
  obtain ⟨i, hi⟩ := List.mem_iff_getElem?.1 hx
  have hlt : i < l.length := (List.getElem?_eq_some_iff.1 hi).1
  exact (he.2 i _ x (List.getElem?_eq_getElem (by rw [he.1]; exact hlt)) hi).2

theorem E_ref01_div : Ent Tryz.prog 164 := ent_of Tryz.func164 (by kernel_rfl) rfl
theorem ref01_div_c {S : Nat → Prop} {w : World} {va vb : Value} {m d : Nat} (up : Up S w) (ha : eHs.R S w va (hds m)) (hb : eHs.R S w vb (hds d)) (hla : (hds m).length ≤ 10000000000) (hlb : (hds d).length ≤ 10000000000) (hd : d ≠ 0) :
    CR Tryz.prog 164 #[va, vb] w (Two (eHs.at S (hds (m / d))) (eHs.at S (hds (m % d)))) := by
  have hda := digH_hds m
  have hdb := digH_hds d
  have hva := valH_hds m
  have hvb := valH_hds d
  have hbne : (hds d).length ≠ 0 := fun e => hd (hds_eq_nil.1 (List.length_eq_zero_iff.1 e))
  have hbge := hds_ge hd
  have hblt := hds_lt d
  generalize hds m = a at *
  generalize hds d = b at *
  have hA : ∀ {W : World}, Below w.heap.size w W → eHs.R (fun k => S k ∧ k < w.heap.size) W va a := fun hB => eHs.keep (fun k c t f hk h => (hB.block k hk.2).trans h) (ER.lt eHs ha)
  have hBb : ∀ {W : World}, Below w.heap.size w W → eHs.R (fun k => S k ∧ k < w.heap.size) W vb b := fun hB => eHs.keep (fun k c t f hk h => (hB.block k hk.2).trans h) (ER.lt eHs hb)
  refine enter Tryz.func164 rfl Tryz.ntmps164 rfl ?_
  refine .seq (.region (.asg rfl rfl (.asg rfl rfl (.nil ?_))))
  refine .mid (α := Unit) (fun _ => [(0, va), (1, vb)]) (fun _ W => W = w ∧ (3 < a.length ∨ 3 < b.length)) ?_ ?_
  · refine .seq (.region (.mv rfl rfl (.lenR un_H rfl rfl ha ?_)))
    by_cases h1 : a.length ≤ 3
    · refine .leqT rfl rfl rfl (by omega) (.mv rfl rfl (.gr rfl rfl rfl rfl (.mv rfl rfl (.gr rfl rfl rfl rfl (.lenR un_H rfl rfl hb (.gr rfl rfl rfl rfl ?_))))))
      by_cases h2 : b.length ≤ 3
      · refine .leqT rfl rfl rfl (by omega) (.pick rfl rfl rfl (.nil (.condT rfl (.seq (.region (.mv rfl rfl ?_))))))
        refine .call _ rfl E_ref01_small rfl (ref01_small_c ha h1) fun v1 w1 e1 r1 => .mv rfl rfl ?_
        subst r1
        refine .call _ rfl E_ref01_small rfl (ref01_small_c (hb.ext e1) h2) fun v2 w2 e2 r2 => ?_
        subst r2
        rw [hva, hvb]
        have x2 := e1.trans e2
        have hm3 : m < 281474976710656 := by
          have := valH_lt hda
          have hp : 65536 ^ a.length ≤ 65536 ^ 3 := Nat.pow_le_pow_right (by omega) h1
          omega
        have hdle : m / d ≤ m := Nat.div_le_self _ _
        have hmlt : m % d ≤ m := Nat.mod_le _ _
        refine .quo rfl rfl rfl (by omega) ?_
        rw [tdiv_nat, wI (by have h0 : (0 : Int) ≤ ((m / d : Nat) : Int) := Int.natCast_nonneg _; omega)]
        refine .call _ rfl E_ref01_back rfl (ref01_back_c (up.ext x2.size) (by omega)) fun v3 w3 e3 r3 => .mv rfl rfl ?_
        have x3 := x2.trans e3
        refine .call _ rfl E_ref01_small rfl (ref01_small_c (ha.ext x3) h1) fun v4 w4 e4 r4 => .mv rfl rfl ?_
        subst r4
        have x4 := x3.trans e4
        refine .call _ rfl E_ref01_small rfl (ref01_small_c (hb.ext x4) h2) fun v5 w5 e5 r5 => ?_
        subst r5
        rw [hva, hvb]
        have x5 := x4.trans e5
        refine .rem rfl rfl rfl (by omega) ?_
        rw [tmod_nat]
        refine .call _ rfl E_ref01_back rfl (ref01_back_c (up.ext x5.size) (by omega)) fun v6 w6 e6 r6 => .asg rfl rfl (.asg rfl rfl (.nil (.ret ?_)))
        exact .plain [_, _] Tryz.results164 ⟨rfl, rfl, trivial⟩ ⟨x5.trans e6, v3, v6, rfl, ER.ext eHs (ER.ext eHs (ER.ext eHs r3 e4) e5) e6, r6⟩
      · refine .leqF rfl rfl rfl (by omega) (.pick rfl rfl rfl (.nil (.condF rfl (.skip ?_))))
        exact ⟨rfl, (), look_cons rfl (look_cons rfl look_nil), rfl, by omega⟩
    · refine .leqF rfl rfl rfl (by omega) (.mv rfl rfl (.gs rfl rfl rfl rfl rfl (.gs rfl rfl rfl rfl rfl (.gs rfl rfl rfl rfl rfl (.pick rfl rfl rfl (.nil (.condF rfl (.skip ?_))))))))
      exact ⟨rfl, (), look_cons rfl (look_cons rfl look_nil), rfl, by omega⟩
  rintro _ W ⟨hWw, hbig⟩
  have hWw := hWw.symm
  subst hWw
  refine .seq (.region (.mv rfl rfl (.lenR un_H rfl rfl ha ?_)))
  refine .make_ _ _ un_H info_int rfl (by decide) rfl rfl rfl (Nat.le_refl _) (by omega) (by omega) fun w1 g n1 => .asg rfl rfl (.nil ?_)
  have f1 : FB eH 3 S w1 g (List.replicate a.length 0) := FB.made n1 zero_H
  obtain ⟨e1, k1, hg, hs1⟩ := n1
  -- the end of both ways
  have hout : ∀ {W2 : World} {l : List Nat}, FB eH 3 S W2 g l → l.length = a.length → eHs.R S W2 (.slice (some ⟨g, 0, none⟩) a.length a.length) l := by
    intro W2 l hF hl
    have := hF.toR (c := a.length) (hsz := by decide) (up g (by omega)) (by omega) (by omega)
    rwa [hl] at this
  refine .seq (.seq (.region (.mv rfl rfl (.lenR un_H rfl rfl (hBb e1) ?_))))
  by_cases hb1 : b.length = 1
  · refine .eqlT rfl rfl rfl (by omega) (.nil (.condT rfl (.seq (.region (.asg rfl rfl (.nil ?_))))))
    have hb0 : b.getD 0 0 = d := by
      match b, hb1 with
      | [x], _ => simpa [valH] using hvb
    have hd16 : d < 65536 := by rw [hb1] at hblt; simpa using hblt
    have hgetb := getD_get (l := b) (k := 0) (by omega)
    rw [hb0] at hgetb
    refine .mid (α := List Nat × Nat) (fun p => [(6, .slice (some ⟨g, 0, none⟩) a.length a.length), (7, .int .i64 (p.2 : Nat))]) (fun p W => Below w.heap.size w W ∧ FB eH 3 S W g p.1 ∧ p.1.length = a.length ∧ valH p.1 = m / d ∧ p.2 = m % d) ?_ ?_
    · refine .seq (.region (.mv rfl rfl (.lenR un_H rfl rfl (hA e1) (.sub rfl rfl rfl (.asg rfl rfl (.nil ?_))))))
      rw [wI (by omega)]
      refine .block (.loop (α := Nat × List Nat × Nat) (fun x => [(0, va), (1, vb), (6, .slice (some ⟨g, 0, none⟩) a.length a.length), (7, .int .i64 (x.2.2 : Nat)), (8, .int .i64 ((x.1 : Nat) - 1 : Int))])
        (fun x W => Below w.heap.size w W ∧ x.1 ≤ a.length ∧ FB eH 3 S W g x.2.1 ∧ x.2.1.length = a.length ∧ valH (x.2.1.drop x.1) = valH (a.drop x.1) / d ∧ x.2.2 = valH (a.drop x.1) % d) (fun x => x.1) (a.length, List.replicate a.length 0, 0) ?_ ?_ ?_)
      · exact look_cons rfl (look_cons rfl (look_cons rfl (look_cons rfl (look_cons rfl look_nil))))
      · refine ⟨e1, Nat.le_refl _, f1, by simp, ?_, ?_⟩
        · show valH ((List.replicate a.length 0).drop a.length) = _
          rw [List.drop_eq_nil_of_le (by simp), List.drop_eq_nil_of_le (Nat.le_refl _)]; simp [valH]
        · show 0 = _
          rw [List.drop_eq_nil_of_le (Nat.le_refl _)]; simp [valH]
      · rintro ⟨j, l, r⟩ W ⟨hB, hj, hF, hl, hq, hr⟩
        replace hB : Below w.heap.size w W := hB
        replace hj : j ≤ a.length := hj
        replace hF : FB eH 3 S W g l := hF
        replace hl : l.length = a.length := hl
        replace hq : valH (l.drop j) = valH (a.drop j) / d := hq
        replace hr : r = valH (a.drop j) % d := hr
        refine .weak [(0, va), (1, vb), (6, .slice (some ⟨g, 0, none⟩) a.length a.length), (7, .int .i64 (r : Nat)), (8, .int .i64 ((j : Nat) - 1 : Int))] (fun t v h => h) ?_
        have hsz := hB.size
        have hgl := hF.lt
        have hrd : r < d := by rw [hr]; exact Nat.mod_lt _ (by omega)
        refine .seq (.seq (.region (.mv rfl rfl ?_)))
        cases j with
        | zero =>
          refine .geqF rfl rfl rfl (by simp) (.nil (.condF rfl (.exit ?_)))
          rw [List.drop_zero, List.drop_zero, hva] at hq
          rw [List.drop_zero, hva] at hr
          exact ⟨rfl, (l, r), look_cons rfl (look_cons rfl look_nil), hB, hF, hl, hq, hr⟩
        | succ i =>
          rw [show (((i + 1 : Nat) : Int) - 1) = (i : Int) by omega]
          have hx := digH_getD hda i
          have hget := getD_get (l := a) (k := i) (by omega)
          have hdr := valH_drop (l := a) (k := i) (by omega)
          have hst := div_step (D := valH (a.drop (i + 1))) (x := a.getD i 0) (by omega : 0 < d) hq hr
          rw [← hdr] at hst
          generalize a.getD i 0 = x at *
          refine .geqT rfl rfl rfl (by omega) (.nil (.condT rfl (.skip (.seq (.block (.seq (.region (.mv rfl rfl (.mul rfl rfl rfl (.mv rfl rfl (.mv rfl rfl ?_)))))))))))
          refine .ixN (i := i) un_H ty_int rfl rfl (hA hB) rfl hget fun p hp => .ldE ty_int rfl rfl hp fun e he => ?_
          obtain ⟨rfl, _⟩ := he
          refine .add rfl rfl rfl (.asg rfl rfl (.nil ?_))
          rw [wI (n := (r : Int) * 65536) (by omega), wI (by omega), show (r : Int) * 65536 + (x : Int) = ((x + 65536 * r : Nat) : Int) by omega]
          generalize hy : x + 65536 * r = y at *
          have hyq : y / d < 65536 := by
            rw [Nat.div_lt_iff_lt_mul (by omega)]
            have : 65536 * (r + 1) ≤ 65536 * d := Nat.mul_le_mul_left _ hrd
            omega
          have hyr : y % d < d := Nat.mod_lt _ (by omega)
          obtain ⟨ad, cb, hvbs, _, hpt⟩ := RL.at_ (hBb hB) hgetb
          obtain ⟨eb, ⟨rfl, _⟩, hadS, hadc⟩ := hpt
          have hcell : W.cell? (ad.add (0 * 1)) = some (.int .i64 (d : Nat)) := hadc 0 _ rfl
          rw [block_add] at hadS
          have hkeep : ∀ {W' : World}, W'.heap[ad.block]? = W.heap[ad.block]? → W'.cell? (ad.add (0 * 1)) = some (.int .i64 (d : Nat)) := fun h => (cell_same (p := ad.add (0 * 1)) (by rw [block_add]; exact h)).trans hcell
          refine .held follows false (fun W' => W'.cell? (ad.add (0 * 1)) = some (.int .i64 (d : Nat))) [some _, some _, some _, some vb, some (.pointer (some (ad.add (0 * 1)))), some (.int .i64 (d : Nat)), some (.int .i64 ((y / d : Nat) : Int)), some _, some vb, some (.pointer (some (ad.add (0 * 1)))), some (.int .i64 (d : Nat)), some (.int .i64 ((y % d : Nat) : Int)), none, none, none] (by kernel_rfl) ⟨
            fun _ _ => v_mv rfl, fun _ _ => v_mv rfl, fun _ _ => v_mv rfl, fun _ _ => v_mv rfl,
            fun _ _ => v_ixA (i := 0) un_H ty_int (by rw [← hvbs]; rfl) rfl (by omega), fun _ h => v_ldP ty_int rfl h, fun _ _ => (v_quo rfl rfl (by omega)).eq (by rw [tdiv_nat, wI (by have h0 : (0 : Int) ≤ ((y / d : Nat) : Int) := Int.natCast_nonneg _; omega)]),
            fun _ _ => v_mv rfl, fun _ _ => v_mv rfl,
            fun _ _ => v_ixA (i := 0) un_H ty_int (by rw [← hvbs]; rfl) rfl (by omega), fun _ h => v_ldP ty_int rfl h, fun _ _ => (v_rem rfl rfl (by omega)).eq (by rw [tmod_nat]), trivial⟩ ?_
          intro W1 e1 hh1
          have hB1 : Below w.heap.size w W1 := hB.trans (e1.mono hsz)
          have hI1 := hkeep (W' := W1) (by rw [hh1])
          refine .gv hI1 rfl (v_ixB (i := i) un_H ty_int rfl rfl (by omega)).gv ?_
          rintro _ W1' ⟨rfl, hW1'⟩
          have hW1' := hW1'.symm
          subst hW1'
          refine .gv hI1 rfl (g_storeF (E := eH) (i := i) (z := y / d) (by decide) ty_int rfl rfl (hF.ext e1) rfl (by omega) (Nat.zero_add _) ⟨rfl, hyq⟩) ?_
          rintro _ W2 ⟨hF2, u2⟩
          have hI2 := hkeep (W' := W2) (by rw [u2.block ad.block (by have := hadS.2; omega), hh1])
          refine .gv hI2 rfl (v_as rfl).gv ?_
          rintro _ W2' ⟨rfl, hW2'⟩
          have hW2' := hW2'.symm
          subst hW2'
          refine .nil (.inr hI2) ?_
          refine .region (.mv rfl rfl (.sub rfl rfl rfl (.asg rfl rfl (.nil ?_))))
          rw [wI (by omega)]
          refine ⟨rfl, (i, l.set i (y / d), y % d), look_cons rfl (look_cons rfl (look_cons rfl (look_cons rfl (look_cons rfl look_nil)))), ⟨u2.below hB1 (by omega), by show i ≤ a.length; omega, hF2, by show (l.set i _).length = _; simpa using hl, ?_, hst.2.symm⟩, by show i < i + 1; omega⟩
          show valH ((l.set i (y / d)).drop i) = valH (a.drop i) / d
          rw [valH_set_drop (by omega), hst.1]
    · rintro ⟨l, r⟩ W ⟨hB, hF, hl, hq, hr⟩
      replace hF : FB eH 3 S W g l := hF
      replace hl : l.length = a.length := hl
      replace hq : valH l = m / d := hq
      replace hr : r = m % d := hr
      have hrd : r < d := by rw [hr]; exact Nat.mod_lt _ (by omega)
      refine .seq (.region (.mv rfl rfl ?_))
      refine .call _ rfl E_ref01_trim rfl (ref01_trim_c (hout hF hl)) fun v2 W2 e2 h2 => .mv rfl rfl (.bsl _ rfl rfl bsl_H1 fun W3 b3 n3 => ?_)
      have hB2 : Below w.heap.size w W2 := hB.trans (e2.mono hB.size)
      rw [trimH (FBH_dig hF), hq] at h2
      have hdr : digH [r] := by intro x hx; simp at hx; omega
      have ho3 : OwnH 3 W2.heap.size W3 (.slice (some ⟨b3, 0, none⟩) 1 1) [r] := OwnH.lit (l := [r]) n3 (Nat.le_refl _) hdr (by simp)
      refine .call _ rfl E_ref01_trim rfl (ref01_trim_c (S := S) (ho3.toR (fun k hk => up k (by have := hB2.size; omega)))) fun v4 W4 e4 h4 => .asg rfl rfl (.asg rfl rfl (.nil (.ret ?_)))
      rw [trimH hdr, show valH [r] = m % d by simp [valH, hr]] at h4
      have e24 := n3.1.trans e4
      exact .plain [_, _] Tryz.results164 ⟨rfl, rfl, trivial⟩ ⟨hB2.trans (e24.mono hB2.size), v2, v4, rfl, ER.ext eHs h2 e24, h4⟩
  · refine .eqlF rfl rfl rfl (by omega) (.nil (.condF rfl (.skip (.seq (.region (.asg rfl rfl (.nil ?_)))))))
    have hb2 : 2 ≤ b.length := by omega
    refine .mid (α := List Nat × Value) (fun p => [(6, .slice (some ⟨g, 0, none⟩) a.length a.length), (9, p.2)]) (fun p W => Below w.heap.size w W ∧ FB eH 3 S W g p.1 ∧ p.1.length = a.length ∧ valH p.1 = m / d ∧ eHs.R (fun k => S k ∧ k ≠ g) W p.2 (hds (m % d))) ?_ ?_
    · refine .seq (.region (.mv rfl rfl (.lenR un_H rfl rfl (hA e1) (.sub rfl rfl rfl (.asg rfl rfl (.nil ?_))))))
      rw [wI (by omega)]
      refine .block (.loop (α := Nat × List Nat × Value) (fun x => [(0, va), (1, vb), (6, .slice (some ⟨g, 0, none⟩) a.length a.length), (9, x.2.2), (10, .int .i64 ((x.1 : Nat) - 1 : Int))])
        (fun x W => Below w.heap.size w W ∧ x.1 ≤ a.length ∧ FB eH 3 S W g x.2.1 ∧ x.2.1.length = a.length ∧ valH (x.2.1.drop x.1) = valH (a.drop x.1) / d ∧ eHs.R (fun k => S k ∧ k ≠ g) W x.2.2 (hds (valH (a.drop x.1) % d))) (fun x => x.1) (a.length, List.replicate a.length 0, .slice none 0 0) ?_ ?_ ?_)
      · exact look_cons rfl (look_cons rfl (look_cons rfl (look_cons rfl (look_cons rfl look_nil))))
      · refine ⟨e1, Nat.le_refl _, f1, by simp, ?_, ?_⟩
        · show valH ((List.replicate a.length 0).drop a.length) = _
          rw [List.drop_eq_nil_of_le (by simp), List.drop_eq_nil_of_le (Nat.le_refl _)]; simp [valH]
        · show eHs.R _ _ _ (hds (valH (a.drop a.length) % d))
          rw [List.drop_eq_nil_of_le (Nat.le_refl _), valH, Nat.zero_mod, hds_zero]; exact RL.nil
      · rintro ⟨j, l, u⟩ W ⟨hB, hj, hF, hl, hq, hu⟩
        replace hB : Below w.heap.size w W := hB
        replace hj : j ≤ a.length := hj
        replace hF : FB eH 3 S W g l := hF
        replace hl : l.length = a.length := hl
        replace hq : valH (l.drop j) = valH (a.drop j) / d := hq
        replace hu : eHs.R (fun k => S k ∧ k ≠ g) W u (hds (valH (a.drop j) % d)) := hu
        refine .weak [(0, va), (1, vb), (6, .slice (some ⟨g, 0, none⟩) a.length a.length), (9, u), (10, .int .i64 ((j : Nat) - 1 : Int))] (fun t v h => h) ?_
        have hsz := hB.size
        have hgl := hF.lt
        refine .seq (.seq (.region (.mv rfl rfl ?_)))
        cases j with
        | zero =>
          refine .geqF rfl rfl rfl (by simp) (.nil (.condF rfl (.exit ?_)))
          rw [List.drop_zero, List.drop_zero, hva] at hq
          rw [List.drop_zero, hva] at hu
          exact ⟨rfl, (l, u), look_cons rfl (look_cons rfl look_nil), hB, hF, hl, hq, hu⟩
        | succ i =>
          rw [show (((i + 1 : Nat) : Int) - 1) = (i : Int) by omega]
          have hx := digH_getD hda i
          have hget := getD_get (l := a) (k := i) (by omega)
          have hdr := valH_drop (l := a) (k := i) (by omega)
          have hst := div_step (D := valH (a.drop (i + 1))) (x := a.getD i 0) (by omega : 0 < d) hq rfl
          rw [← hdr] at hst
          generalize a.getD i 0 = x at *
          have hR : valH (a.drop (i + 1)) % d < d := Nat.mod_lt _ (by omega)
          generalize hRR : valH (a.drop (i + 1)) % d = R at *
          have hRl : (hds R).length ≤ b.length := hds_length (Nat.lt_trans hR hblt)
          have upT : ∀ {W' : World}, Below w.heap.size w W' → g < W'.heap.size → Up (fun k => S k ∧ k ≠ g) W' := fun hB' hg' k hk => ⟨up k (by have := hB'.size; omega), by omega⟩
          refine .geqT rfl rfl rfl (by omega) (.nil (.condT rfl (.skip (.seq (.block (.seq (.region (.mv rfl rfl (.mv rfl rfl ?_)))))))))
          refine .ixN (i := i) un_H ty_int rfl rfl (hA hB) rfl hget fun p hp => .ldE ty_int rfl rfl hp fun e he => ?_
          obtain ⟨rfl, _⟩ := he
          refine .bsl _ rfl rfl bsl_H1 fun W1 b1 n1 => .mv rfl rfl ?_
          have ho1 : OwnH 3 W.heap.size W1 (.slice (some ⟨b1, 0, none⟩) 1 1) [x] := OwnH.lit (l := [x]) n1 (Nat.le_refl _) (by intro y hy; simp at hy; omega) (by simp)
          refine .gv rfl rfl (g_appHs (base := W.heap.size) un_H info_int rfl rfl ho1 (hu.ext n1.1) (by simp) (by omega) n1.1.size) ?_
          rintro v2 W2 ⟨ho2, hB2⟩
          have e2 : Ext W W2 := Below.trans n1.1 hB2
          have hs2 := e2.size
          have hu2 : eHs.R (fun k => S k ∧ k ≠ g) W2 v2 ([x] ++ hds R) := ho2.toR (fun k hk => ⟨up k (by omega), by omega⟩)
          refine .call _ rfl E_ref01_trim rfl (ref01_trim_c hu2) fun v3 W3 e3 h3 => .asg rfl rfl (.nil (.seq (.region (.asg rfl rfl (.asg rfl rfl (.nil ?_))))))
          have hv3 : valH ([x] ++ hds R) = x + 65536 * R := by show valH (x :: hds R) = _; rw [valH, valH_hds]
          rw [trimH (eH_dig hu2), hv3] at h3
          have e23 := e2.trans e3
          have hs3 := e23.size
          have hB3 : Below w.heap.size w W3 := hB.trans (e23.mono hsz)
          generalize hy : x + 65536 * R = y at *
          have hyd : y < 65536 * d := by
            have : 65536 * (R + 1) ≤ 65536 * d := Nat.mul_le_mul_left _ hR
            omega
          have hylen : (hds y).length ≤ b.length + 1 := hds_length (by rw [Nat.pow_succ]; omega)
          -- between lo and hi
          refine .mid (α := Nat) (fun hi => [(0, va), (1, vb), (6, .slice (some ⟨g, 0, none⟩) a.length a.length), (9, v3), (10, .int .i64 (i : Nat)), (11, .int .i64 0), (12, .int .i64 (hi : Nat))]) (fun hi W' => W' = W3 ∧ 1 ≤ hi ∧ hi ≤ 65536 ∧ y < hi * d) ?_ ?_
          · refine .seq (.region (.mv rfl rfl (.lenR un_H rfl rfl h3 (.mv rfl rfl (.lenR un_H rfl rfl (hBb hB3) ?_)))))
            by_cases hll : (hds y).length < b.length
            · refine .lssT rfl rfl rfl (by omega) (.nil (.condT rfl (.region (.asg rfl rfl (.nil ?_)))))
              refine ⟨rfl, 1, look_cons rfl (look_cons rfl (look_cons rfl (look_cons rfl (look_cons rfl (look_cons rfl (look_cons rfl look_nil)))))), rfl, Nat.le_refl _, by omega, ?_⟩
              have h1 := hds_lt y
              have h2 : 65536 ^ (hds y).length ≤ 65536 ^ (b.length - 1) := Nat.pow_le_pow_right (by omega) (by omega)
              omega
            · refine .lssF rfl rfl rfl (by omega) (.nil (.condF rfl (.skip ?_)))
              exact ⟨rfl, 65536, look_cons rfl (look_cons rfl (look_cons rfl (look_cons rfl (look_cons rfl (look_cons rfl (look_cons rfl look_nil)))))), rfl, by omega, Nat.le_refl _, hyd⟩
          · rintro hi0 W3' ⟨hW3', hi1, hi2, hyhi⟩
            have hW3' := hW3'.symm
            subst hW3'
            refine .mid (α := Nat) (fun lo => [(0, va), (1, vb), (6, .slice (some ⟨g, 0, none⟩) a.length a.length), (9, v3), (10, .int .i64 (i : Nat)), (11, .int .i64 (lo : Nat))]) (fun lo W' => Ext W3 W' ∧ lo < 65536 ∧ lo = y / d) ?_ ?_
            · refine .block (.loop (α := Nat × Nat) (fun z => [(0, va), (1, vb), (6, .slice (some ⟨g, 0, none⟩) a.length a.length), (9, v3), (10, .int .i64 (i : Nat)), (11, .int .i64 (z.1 : Nat)), (12, .int .i64 (z.2 : Nat))]) (fun z W' => Ext W3 W' ∧ z.1 < z.2 ∧ z.2 ≤ 65536 ∧ z.1 * d ≤ y ∧ y < z.2 * d) (fun z => z.2 - z.1) (0, hi0) ?_ ?_ ?_)
              · exact look_cons rfl (look_cons rfl (look_cons rfl (look_cons rfl (look_cons rfl (look_cons rfl (look_cons rfl look_nil))))))
              · exact ⟨.refl _, hi1, hi2, by show 0 * d ≤ y; omega, hyhi⟩
              · rintro ⟨lo, hi⟩ W4 ⟨e4, hlh, hh, hlo, hhi⟩
                replace e4 : Ext W3 W4 := e4
                replace hlh : lo < hi := hlh
                replace hh : hi ≤ 65536 := hh
                replace hlo : lo * d ≤ y := hlo
                replace hhi : y < hi * d := hhi
                refine .weak [(0, va), (1, vb), (6, .slice (some ⟨g, 0, none⟩) a.length a.length), (9, v3), (10, .int .i64 (i : Nat)), (11, .int .i64 (lo : Nat)), (12, .int .i64 (hi : Nat))] (fun t v h => h) ?_
                have hB4 : Below w.heap.size w W4 := hB3.trans (e4.mono hB3.size)
                have hs4 := e4.size
                refine .seq (.seq (.region (.mv rfl rfl (.mv rfl rfl (.sub rfl rfl rfl ?_)))))
                rw [wI (by omega)]
                by_cases hgo : lo + 1 < hi
                · refine .gtrT rfl rfl rfl (by omega) (.nil (.condT rfl (.skip (.block (.seq (.region (.mv rfl rfl (.mv rfl rfl (.add rfl rfl rfl (.quo rfl rfl rfl (by decide) (.asg rfl rfl (.nil ?_))))))))))))
                  rw [wI (n := (lo : Int) + (hi : Int)) (by omega), show ((lo : Int) + (hi : Int)).tdiv 2 = (((lo + hi) / 2 : Nat) : Int) by rw [← Int.natCast_add]; exact tdiv_nat (lo + hi) 2, wI (by omega)]
                  generalize hmid : (lo + hi) / 2 = mid at *
                  refine .seq (.region (.mv rfl rfl (.mv rfl rfl ?_)))
                  have hbT : eHs.R (fun k => S k ∧ k ≠ g) W4 vb b := eHs.mono (fun k _ hk => ⟨hk.1, by have := hk.2; omega⟩) (hBb hB4)
                  refine .call _ rfl E_ref01_times rfl (ref01_times_c (upT hB4 (by omega)) hbT (by omega) (show mid ≤ 65536 by omega)) fun v5 W5 e5 h5 => .mv rfl rfl ?_
                  rw [hvb] at h5
                  have hml : (hds (d * mid)).length ≤ b.length + 1 := hds_length (by
                    rw [Nat.pow_succ]
                    have : d * mid ≤ d * 65536 := Nat.mul_le_mul_left _ (by omega)
                    omega)
                  refine .call _ rfl E_ref01_cmp rfl (ref01_cmp_c h5 ((h3.ext e4).ext e5) (by omega) (by omega)) fun v6 W6 e6 h6 => ?_
                  subst h6
                  rw [valH_hds, valH_hds, Nat.mul_comm d mid]
                  have e46 := (e4.trans e5).trans e6
                  by_cases hc : mid * d ≤ y
                  · refine .leqT rfl rfl rfl (by unfold cmpN; split <;> (try split) <;> omega) (.nil (.condT rfl (.region (.mv rfl rfl (.asg rfl rfl (.nil ?_))))))
                    exact ⟨rfl, (mid, hi), look_cons rfl (look_cons rfl (look_cons rfl (look_cons rfl (look_cons rfl (look_cons rfl (look_cons rfl look_nil)))))), ⟨e46, by show mid < hi; omega, hh, hc, hhi⟩, by show hi - mid < hi - lo; omega⟩
                  · refine .leqF rfl rfl rfl (by unfold cmpN; rw [if_neg (by omega), if_pos (by omega)]; decide) (.nil (.condF rfl (.region (.mv rfl rfl (.asg rfl rfl (.nil ?_))))))
                    exact ⟨rfl, (lo, mid), look_cons rfl (look_cons rfl (look_cons rfl (look_cons rfl (look_cons rfl (look_cons rfl (look_cons rfl look_nil)))))), ⟨e46, by show lo < mid; omega, by show mid ≤ 65536; omega, hlo, by show y < mid * d; omega⟩, by show mid - lo < hi - lo; omega⟩
                · refine .gtrF rfl rfl rfl (by omega) (.nil (.condF rfl (.exit ?_)))
                  refine ⟨rfl, lo, look_cons rfl (look_cons rfl (look_cons rfl (look_cons rfl (look_cons rfl (look_cons rfl look_nil))))), e4, by show lo < 65536; omega, ?_⟩
                  have h1 : hi = lo + 1 := by omega
                  rw [h1] at hhi
                  symm
                  exact (Nat.div_eq_iff (by omega)).2 ⟨by omega, by rw [Nat.add_mul] at hhi; omega⟩
            · rintro lo W4 ⟨e4, hlo, hlod⟩
              have hB4 : Below w.heap.size w W4 := hB3.trans (e4.mono hB3.size)
              have hs4 := e4.size
              have hbT : eHs.R (fun k => S k ∧ k ≠ g) W4 vb b := eHs.mono (fun k _ hk => ⟨hk.1, by have := hk.2; omega⟩) (hBb hB4)
              refine .region (.mv rfl rfl (.mv rfl rfl (.mv rfl rfl (.mv rfl rfl (.mv rfl rfl (.mv rfl rfl ?_))))))
              refine .call _ rfl E_ref01_times rfl (ref01_times_c (upT hB4 (by omega)) hbT (by omega) (show lo ≤ 65536 by omega)) fun v5 W5 e5 h5 => ?_
              rw [hvb] at h5
              have e45 := e4.trans e5
              have hB5 : Below w.heap.size w W5 := hB3.trans (e45.mono hB3.size)
              have hs5 := e5.size
              have hdl : d * lo ≤ y := by rw [hlod]; exact Nat.mul_div_le y d
              refine .call _ rfl E_ref01_sub rfl (ref01_sub_c (upT hB5 (by omega)) (h3.ext e45) h5 (by omega) (by rw [valH_hds, valH_hds]; exact hdl)) fun v6 W6 e6 h6 => ?_
              rw [valH_hds, valH_hds] at h6
              have hmod : y - d * lo = y % d := by rw [hlod]; have := Nat.div_add_mod y d; omega
              rw [hmod] at h6
              have e36 := e45.trans e6
              have hB6 : Below w.heap.size w W6 := hB3.trans (e36.mono hB3.size)
              have eW6 := e23.trans e36
              refine .ixB (i := i) un_H ty_int rfl rfl rfl (by omega) ?_
              refine .storeF (E := eH) (i := i) (z := lo) (by decide) ty_int rfl rfl (hF.ext eW6) rfl (by omega) (Nat.zero_add _) ⟨rfl, hlo⟩ fun W7 hF7 u7 => .asg rfl rfl (.nil ?_)
              refine .region (.mv rfl rfl (.sub rfl rfl rfl (.asg rfl rfl (.nil ?_))))
              rw [wI (by omega)]
              refine ⟨rfl, (i, l.set i lo, v6), look_cons rfl (look_cons rfl (look_cons rfl (look_cons rfl (look_cons rfl look_nil)))), ⟨u7.below hB6 (by omega), by show i ≤ a.length; omega, hF7, by show (l.set i _).length = _; simpa using hl, ?_, ?_⟩, by show i < i + 1; omega⟩
              · show valH ((l.set i lo).drop i) = valH (a.drop i) / d
                rw [valH_set_drop (by omega), hst.1, hlod]
              · show eHs.R _ W7 v6 (hds (valH (a.drop i) % d))
                rw [hst.2]
                exact ER.upd eHs h6 u7 (fun h => h.2 rfl)
    · rintro ⟨l, u⟩ W ⟨hB, hF, hl, hq, hu⟩
      replace hF : FB eH 3 S W g l := hF
      replace hl : l.length = a.length := hl
      replace hq : valH l = m / d := hq
      replace hu : eHs.R (fun k => S k ∧ k ≠ g) W u (hds (m % d)) := hu
      refine .seq (.region (.mv rfl rfl ?_))
      refine .call _ rfl E_ref01_trim rfl (ref01_trim_c (hout hF hl)) fun v2 W2 e2 h2 => .mv rfl rfl (.asg rfl rfl (.asg rfl rfl (.nil (.ret ?_))))
      rw [trimH (FBH_dig hF), hq] at h2
      exact .plain [_, _] Tryz.results164 ⟨rfl, rfl, trivial⟩ ⟨hB.trans (e2.mono hB.size), v2, u, rfl, h2, eHs.mono (fun k _ hk => hk.1) (ER.ext eHs hu e2)⟩
end Go.Proofs.YtccmemilofoamaaGreat

namespace Go.Kx
theorem sg_neg (n : Bool) (v : Nat) : sg (!n) v = -(sg n v) := by cases n <;> simp [sg]
theorem sg_mulX (m n : Bool) (u v : Nat) : sg (m != n) (u * v) = sg m u * sg n v := by cases m <;> cases n <;> simp [sg, Int.neg_mul, Int.mul_neg]
theorem hds_add_len {A B K : Nat} (h1 : (hds A).length ≤ K) (h2 : (hds B).length ≤ K) : (hds (A + B)).length ≤ K + 1 := by
  have a1 := hds_lt A
  have a2 := hds_lt B
  have b1 : 65536 ^ (hds A).length ≤ 65536 ^ K := Nat.pow_le_pow_right (by omega) h1
  have b2 : 65536 ^ (hds B).length ≤ 65536 ^ K := Nat.pow_le_pow_right (by omega) h2
  exact hds_length (by rw [Nat.pow_succ]; omega)
theorem hds_mul_len (A B : Nat) : (hds (A * B)).length ≤ (hds A).length + (hds B).length := hds_length (by rw [Nat.pow_add]; exact Nat.mul_lt_mul'' (hds_lt A) (hds_lt B))
theorem sign_sg {n : Bool} {v : Nat} (h : v ≠ 0) : (sg n v).sign = if n then -1 else 1 := by
  cases n
  · simp only [sg, Bool.false_eq_true, if_false]; rw [Int.sign_eq_one_of_pos (by omega)]
  · simp only [sg, if_true]; rw [Int.sign_eq_neg_one_of_neg (by omega)]
theorem zval_mk (z : ZV) : zval z = sg z.neg (val z.w) := rfl
theorem hlv_len_le {l : List Nat} {L : Nat} (h : l.length ≤ L) : (hds (val l)).length ≤ 2 * L ∨ ¬ dig l := by
  by_cases hd : dig l
  · left
    have h1 := valH_lt (digH_hlv hd)
    rw [valH_hlv, hlv_length] at h1
    have := hds_length h1
    omega
  · exact .inr hd
end Go.Kx
namespace Go.Proofs.YtccmemilofoamaaGreat
open Go Go.Kx Go.RowKit

/-- the digits of an integer's words -/
theorem ref01_hv_c {S : Nat → Prop} {w : World} {v : Value} {l : List Nat} (up : Up S w) (h : eW.R S w v l) (hl : l.length ≤ 1000000000) : CR Tryz.prog 146 #[v] w (eHs.at S (hds (val l))) := by
  have := ref01_halves_c up h (by omega)
  rwa [trimH (digH_hlv (eW_lt h)), valH_hlv] at this
theorem hv_len {S : Nat → Prop} {w : World} {v : Value} {l : List Nat} (h : eW.R S w v l) (hl : l.length ≤ 1000000000) : (hds (val l)).length ≤ 2000000000 := by
  rcases hlv_len_le hl with h' | h'
  · exact h'
  · exact absurd (eW_lt h) h'
theorem E_ref01_Sign : Ent Tryz.prog 121 := ent_of Tryz.func121 (by kernel_rfl) rfl
theorem ref01_Sign_c {S : Nat → Prop} {w : World} {v : Value} {a : ZV} (up : Up S w) (h : eZ.R S w v a) (hl : a.w.length ≤ 1000000000) : CR Tryz.prog 121 #[v] w (Is (.int .i64 (zval a).sign)) := by
  obtain ⟨s, rfl, hs⟩ := h
  refine enter Tryz.func121 rfl Tryz.ntmps121 rfl ?_
  refine .seq (.region (.box rfl rfl fun w1 b1 n1 => .asg rfl rfl (.nil ?_)))
  obtain ⟨e1, k1, hb1, hs1⟩ := n1
  refine .seq (.seq (.region (.fa fld_Z1 rfl rfl (.ld ty_W rfl rfl k1 rfl ?_))))
  refine .call _ rfl E_ref01_halves rfl (ref01_hv_c (up.ext e1.size) (hs.ext e1) hl) fun v2 w2 e2 h2 => .lenR un_H rfl rfl h2 ?_
  have x2 := e1.trans e2
  by_cases h0 : val a.w = 0
  · rw [h0, hds_zero]
    refine .eqlT rfl rfl rfl rfl (.nil (.condT rfl (.seq (.region (.asg rfl rfl (.nil (.ret ?_)))))))
    refine .plain [_] Tryz.results121 ⟨rfl, trivial⟩ ⟨x2, isI ?_⟩
    rw [zval_mk, h0]; cases a.neg <;> rfl
  · have hne : (hds (val a.w)).length ≠ 0 := fun e => h0 (hds_eq_nil.1 (List.length_eq_zero_iff.1 e))
    refine .eqlF rfl rfl rfl (by omega) (.nil (.condF rfl (.skip ?_)))
    refine .seq (.seq (.region (.fa fld_Z0 rfl rfl (.ld ty_bool rfl rfl (k1.ext e2) rfl (.nil ?_)))))
    have hz : (zval a).sign = if a.neg then -1 else 1 := by rw [zval_mk]; exact sign_sg h0
    cases hn : a.neg with
    | true =>
      rw [hn] at hz
      refine .condT rfl (.seq (.region (.asg rfl rfl (.nil (.ret ?_)))))
      exact .plain [_] Tryz.results121 ⟨rfl, trivial⟩ ⟨x2, isI (by rw [hz]; rfl)⟩
    | false =>
      rw [hn] at hz
      refine .condF rfl (.skip (.seq (.region (.asg rfl rfl (.nil (.ret ?_))))))
      exact .plain [_] Tryz.results121 ⟨rfl, trivial⟩ ⟨x2, isI (by rw [hz]; rfl)⟩

theorem E_ref01_Neg : Ent Tryz.prog 109 := ent_of Tryz.func109 (by kernel_rfl) rfl
theorem ref01_Neg_c {S : Nat → Prop} {w : World} {v : Value} {a : ZV} (up : Up S w) (h : eZ.R S w v a) (hl : a.w.length ≤ 1000000000) : CR Tryz.prog 109 #[v] w (eZ.at S (zc (-zval a))) := by
  obtain ⟨s, rfl, hs⟩ := h
  refine enter Tryz.func109 rfl Tryz.ntmps109 rfl ?_
  refine .seq (.region (.box rfl rfl fun w1 b1 n1 => .alloc rfl zero_Z fun w2 b2 n2 => .nil ?_))
  obtain ⟨e1, k1, hb1, hs1⟩ := n1
  obtain ⟨e2, k2, hb2, hs2⟩ := n2
  have x2 := e1.trans e2
  have k1 := k1.ext e2
  have hS2 : ¬ Sx S w.heap.size w2.heap.size b2 := Sx.no (by omega) (by omega)
  have up2 : Up (Sx S w.heap.size w2.heap.size) w2 := Sx.up up (Nat.le_refl _) x2.size
  have hs2' := (ER.par eW hs w2.heap.size).ext x2
  refine .seq ?_
  refine .par follows 6 [.inl _, .inl (.bool a.neg), .inl _, .inl _, .inl s, .inr (eHs.at (Sx S w.heap.size w2.heap.size) (hds (val a.w)))] [[], [(3, 0)], [(4, 1)], [], [(6, 3)], [(7, 4)]] (by kernel_rfl) ⟨
    fun w e => (v_fa fld_Z0 rfl).ob, fun w e => (v_ld ty_bool rfl (k1.ext e) rfl).ob, fun w e => (v_not rfl).ob, fun w e => (v_fa fld_Z1 rfl).ob, fun w e => (v_ld ty_W rfl (k1.ext e) rfl).ob,
    fun w e => (g_call _ E_ref01_halves rfl (ref01_hv_c (up2.ext e.size) (hs2'.ext e) hl)).ob (st_at _ _ _), trivial⟩ ?_
  intro w3 e3 x5 hx5
  have hlen := hv_len hs hl
  refine .call _ rfl E_ref01_of rfl (ref01_of_c (up2.ext e3.size) hx5 (by omega)) fun v4 w4 e4 h4 => ?_
  rw [valH_hds, sg_neg, ← zval_mk] at h4
  refine .storeA (E := eZ) ty_Z rfl rfl ((k2.ext e3).ext e4) rfl rfl h4 hS2 fun w5 k5 u5 h5 => .nil (.ret ?_)
  exact .cell Tryz.results109 rfl ty_Z rfl rfl k5 h5 ⟨u5.below ((x2.trans e3).trans e4) (by omega), h5.out⟩

theorem E_ref01_Abs : Ent Tryz.prog 147 := ent_of Tryz.func147 (by kernel_rfl) rfl
theorem ref01_Abs_c {S : Nat → Prop} {w : World} {v : Value} {a : ZV} (up : Up S w) (h : eZ.R S w v a) (hl : a.w.length ≤ 1000000000) : CR Tryz.prog 147 #[v] w (eZ.at S (zc (val a.w))) := by
  obtain ⟨s, rfl, hs⟩ := h
  refine enter Tryz.func147 rfl Tryz.ntmps147 rfl ?_
  refine .seq (.region (.box rfl rfl fun w1 b1 n1 => .alloc rfl zero_Z fun w2 b2 n2 => .nil ?_))
  obtain ⟨e1, k1, hb1, hs1⟩ := n1
  obtain ⟨e2, k2, hb2, hs2⟩ := n2
  have x2 := e1.trans e2
  have k1 := k1.ext e2
  have hS2 : ¬ Sx S w.heap.size w2.heap.size b2 := Sx.no (by omega) (by omega)
  have up2 : Up (Sx S w.heap.size w2.heap.size) w2 := Sx.up up (Nat.le_refl _) x2.size
  have hs2' := (ER.par eW hs w2.heap.size).ext x2
  refine .seq (.region (.fa fld_Z1 rfl rfl (.ld ty_W rfl rfl k1 rfl ?_)))
  refine .call _ rfl E_ref01_halves rfl (ref01_hv_c up2 hs2' hl) fun v3 w3 e3 h3 => ?_
  have hlen := hv_len hs hl
  refine .call _ rfl E_ref01_of rfl (ref01_of_c (up2.ext e3.size) h3 (by omega)) fun v4 w4 e4 h4 => ?_
  rw [valH_hds] at h4
  refine .storeA (E := eZ) ty_Z rfl rfl ((k2.ext e3).ext e4) rfl rfl h4 hS2 fun w5 k5 u5 h5 => .nil (.ret ?_)
  exact .cell Tryz.results147 rfl ty_Z rfl rfl k5 h5 ⟨u5.below ((x2.trans e3).trans e4) (by omega), h5.out⟩

theorem E_ref01_Mul : Ent Tryz.prog 122 := ent_of Tryz.func122 (by kernel_rfl) rfl
theorem ref01_Mul_c {S : Nat → Prop} {w : World} {va vb : Value} {a b : ZV} (up : Up S w) (ha : eZ.R S w va a) (hb : eZ.R S w vb b) (hla : a.w.length ≤ 1000000000) (hlb : b.w.length ≤ 1000000000) : CR Tryz.prog 122 #[va, vb] w (eZ.at S (zc (zval a * zval b))) := by
  obtain ⟨s, rfl, hs⟩ := ha
  obtain ⟨t, rfl, ht⟩ := hb
  refine enter Tryz.func122 rfl Tryz.ntmps122 rfl ?_
  refine .seq (.region (.box rfl rfl fun w1 b2 n1 => .box rfl rfl fun w2 b3 n2 => .alloc rfl zero_Z fun w3 b4 n3 => .nil ?_))
  obtain ⟨e1, k2, hb2, hs1⟩ := n1
  obtain ⟨e2, k3, hb3, hs2⟩ := n2
  obtain ⟨e3, k4, hb4, hs3⟩ := n3
  have x3 := (e1.trans e2).trans e3
  have k2 := (k2.ext e2).ext e3
  have k3 := k3.ext e3
  have hS4 : ¬ Sx S w.heap.size w3.heap.size b4 := Sx.no (by omega) (by omega)
  have up3 : Up (Sx S w.heap.size w3.heap.size) w3 := Sx.up up (Nat.le_refl _) x3.size
  have hs' := (ER.par eW hs w3.heap.size).ext x3
  have ht' := (ER.par eW ht w3.heap.size).ext x3
  have l1 := hv_len hs hla
  have l2 := hv_len ht hlb
  refine .seq ?_
  refine .par follows 12 [.inl _, .inl (.bool a.neg), .inl _, .inl (.bool b.neg), .inl (.bool (a.neg != b.neg)), .inl _, .inl s, .inr (eHs.at (Sx S w.heap.size w3.heap.size) (hds (val a.w))), .inl _, .inl t, .inr (eHs.at (Sx S w.heap.size w3.heap.size) (hds (val b.w))), .inr (eHs.at (Sx S w.heap.size w3.heap.size) (hds (valH (hds (val a.w)) * valH (hds (val b.w)))))] [[], [(5, 0)], [], [(7, 2)], [(6, 1), (8, 3)], [], [(10, 5)], [(11, 6)], [], [(13, 8)], [(14, 9)], [(12, 7), (15, 10)]] (by kernel_rfl) ⟨
    fun w e => (v_fa fld_Z0 rfl).ob, fun w e => (v_ld ty_bool rfl (k2.ext e) rfl).ob, fun w e => (v_fa fld_Z0 rfl).ob, fun w e => (v_ld ty_bool rfl (k3.ext e) rfl).ob, fun w e => (v_neqB un_bool rfl rfl).ob,
    fun w e => (v_fa fld_Z1 rfl).ob, fun w e => (v_ld ty_W rfl (k2.ext e) rfl).ob, fun w e => (g_call _ E_ref01_halves rfl (ref01_hv_c (up3.ext e.size) (hs'.ext e) hla)).ob (st_at _ _ _),
    fun w e => (v_fa fld_Z1 rfl).ob, fun w e => (v_ld ty_W rfl (k3.ext e) rfl).ob, fun w e => (g_call _ E_ref01_halves rfl (ref01_hv_c (up3.ext e.size) (ht'.ext e) hlb)).ob (st_at _ _ _),
    fun w e x hx y hy => (g_call _ E_ref01_mul rfl (ref01_mul_c (up3.ext e.size) hx hy (by omega) (by omega))).ob (st_at _ _ _), trivial⟩ ?_
  intro w4 e4 x7 hx7 x10 hx10 v5 h5
  rw [valH_hds, valH_hds] at h5
  have l3 := hds_mul_len (val a.w) (val b.w)
  have e45 := e4
  refine .call _ rfl E_ref01_of rfl (ref01_of_c (up3.ext e45.size) h5 (by omega)) fun v6 w6 e6 h6 => ?_
  rw [valH_hds, sg_mulX, ← zval_mk, ← zval_mk] at h6
  have e46 := e45.trans e6
  refine .storeA (E := eZ) ty_Z rfl rfl (k4.ext e46) rfl rfl h6 hS4 fun w7 k7 u7 h7 => .nil (.ret ?_)
  exact .cell Tryz.results122 rfl ty_Z rfl rfl k7 h7 ⟨u7.below (x3.trans e46) (by omega), h7.out⟩

theorem E_ref01_Add : Ent Tryz.prog 123 := ent_of Tryz.func123 (by kernel_rfl) rfl
theorem ref01_Add_c {S : Nat → Prop} {w : World} {va vb : Value} {a b : ZV} (up : Up S w) (ha : eZ.R S w va a) (hb : eZ.R S w vb b) (hla : a.w.length ≤ 1000000000) (hlb : b.w.length ≤ 1000000000) : CR Tryz.prog 123 #[va, vb] w (eZ.at S (zc (zval a + zval b))) := by
  obtain ⟨s, rfl, hs⟩ := ha
  obtain ⟨t, rfl, ht⟩ := hb
  refine enter Tryz.func123 rfl Tryz.ntmps123 rfl ?_
  refine .seq (.region (.box rfl rfl fun w1 b2 n1 => .box rfl rfl fun w2 b3 n2 => .alloc rfl zero_Z fun w3 b4 n3 => .nil ?_))
  obtain ⟨e1, k2, hb2, hs1⟩ := n1
  obtain ⟨e2, k3, hb3, hs2⟩ := n2
  obtain ⟨e3, k4, hb4, hs3⟩ := n3
  have x3 := (e1.trans e2).trans e3
  have k2 := (k2.ext e2).ext e3
  have k3 := k3.ext e3
  have hS4 : ¬ Sx S w.heap.size w3.heap.size b4 := Sx.no (by omega) (by omega)
  have up3 : Up (Sx S w.heap.size w3.heap.size) w3 := Sx.up up (Nat.le_refl _) x3.size
  have hs' := (ER.par eW hs w3.heap.size).ext x3
  have ht' := (ER.par eW ht w3.heap.size).ext x3
  have l1 := hv_len hs hla
  have l2 := hv_len ht hlb
  have hout : ∀ {W : World} {v : Value} {z : ZV}, eZ.R (Sx S w.heap.size w3.heap.size) W v z → eZ.R S W v z := fun h => h.out
  generalize hT : Sx S w.heap.size w3.heap.size = T at *
  refine .seq ?_
  refine .par follows 6 [.inl _, .inl s, .inr (eHs.at T (hds (val a.w))), .inl _, .inl t, .inr (eHs.at T (hds (val b.w)))] [[], [(7, 0)], [(8, 1)], [], [(10, 3)], [(11, 4)]] (by kernel_rfl) ⟨
    fun w e => (v_fa fld_Z1 rfl).ob, fun w e => (v_ld ty_W rfl (k2.ext e) rfl).ob, fun w e => (g_call _ E_ref01_halves rfl (ref01_hv_c (up3.ext e.size) (hs'.ext e) hla)).ob (st_at _ _ _),
    fun w e => (v_fa fld_Z1 rfl).ob, fun w e => (v_ld ty_W rfl (k3.ext e) rfl).ob, fun w e => (g_call _ E_ref01_halves rfl (ref01_hv_c (up3.ext e.size) (ht'.ext e) hlb)).ob (st_at _ _ _), trivial⟩ ?_
  intro w4 e4 x hx y hy
  refine .asg rfl rfl (.asg rfl rfl (.nil ?_))
  have up4 := up3.ext e4.size
  have k2 := k2.ext e4
  have k3 := k3.ext e4
  have k4 := k4.ext e4
  have x4 := x3.trans e4
  have eva := zval_mk a
  have evb := zval_mk b
  generalize val a.w = A at *
  generalize val b.w = B at *
  refine .seq (.seq (.region (.fa fld_Z0 rfl rfl (.ld ty_bool rfl rfl k2 rfl (.fa fld_Z0 rfl rfl (.ld ty_bool rfl rfl k3 rfl (.eqlB un_bool rfl rfl rfl (.nil ?_))))))))
  by_cases hn : a.neg = b.neg
  · rw [show (a.neg == b.neg) = true by simp [hn]]
    refine .condT rfl (.seq ?_)
    refine .par follows 5 [.inl _, .inl (.bool a.neg), .inl _, .inl _, .inr (eHs.at T (hds (valH (hds A) + valH (hds B))))] [[], [(18, 0)], [], [], [(20, 2), (21, 3)]] (by kernel_rfl) ⟨
      fun w e => (v_fa fld_Z0 rfl).ob, fun w e => (v_ld ty_bool rfl (k2.ext e) rfl).ob, fun w e => (v_mv rfl).ob, fun w e => (v_mv rfl).ob,
      fun w e => (g_call _ E_ref01_add rfl (ref01_add_c (up4.ext e.size) (ER.ext eHs hx e) (ER.ext eHs hy e) (by omega) (by omega))).ob (st_at _ _ _), trivial⟩ ?_
    intro w5 e5 z hz
    rw [valH_hds, valH_hds] at hz
    have l3 := hds_add_len l1 l2
    refine .call _ rfl E_ref01_of rfl (ref01_of_c (up4.ext e5.size) hz (by omega)) fun v6 w6 e6 h6 => ?_
    rw [valH_hds] at h6
    have hval : sg a.neg (A + B) = zval a + zval b := by rw [eva, evb, ← hn]; cases a.neg <;> simp [sg] <;> omega
    rw [hval] at h6
    have e56 := e5.trans e6
    refine .storeA (E := eZ) ty_Z rfl rfl (k4.ext e56) rfl rfl h6 hS4 fun w7 k7 u7 h7 => .nil (.ret ?_)
    exact .cell Tryz.results123 rfl ty_Z rfl rfl k7 h7 ⟨u7.below (x4.trans e56) (by omega), hout h7⟩
  · rw [show (a.neg == b.neg) = false by simpa using hn]
    refine .condF rfl (.skip (.seq (.seq (.region (.mv rfl rfl (.mv rfl rfl ?_))))))
    refine .call _ rfl E_ref01_cmp rfl (ref01_cmp_c hx hy (by omega) (by omega)) fun v5 w5 e5 h5 => ?_
    subst h5
    rw [valH_hds, valH_hds]
    have up5 := up4.ext e5.size
    have k2 := k2.ext e5
    have k3 := k3.ext e5
    have k4 := k4.ext e5
    have x5 := x4.trans e5
    have hx5 := ER.ext eHs hx e5
    have hy5 := ER.ext eHs hy e5
    by_cases hge : B ≤ A
    · refine .geqT rfl rfl rfl (by unfold cmpN; split <;> (try split) <;> omega) (.nil (.condT rfl (.seq ?_)))
      refine .par follows 5 [.inl _, .inl (.bool a.neg), .inl _, .inl _, .inr (eHs.at T (hds (valH (hds A) - valH (hds B))))] [[], [(28, 0)], [], [], [(30, 2), (31, 3)]] (by kernel_rfl) ⟨
        fun w e => (v_fa fld_Z0 rfl).ob, fun w e => (v_ld ty_bool rfl (k2.ext e) rfl).ob, fun w e => (v_mv rfl).ob, fun w e => (v_mv rfl).ob,
        fun w e => (g_call _ E_ref01_sub rfl (ref01_sub_c (up5.ext e.size) (ER.ext eHs hx5 e) (ER.ext eHs hy5 e) (by omega) (by rw [valH_hds, valH_hds]; exact hge))).ob (st_at _ _ _), trivial⟩ ?_
      intro w6 e6 z hz
      rw [valH_hds, valH_hds] at hz
      have l3 : (hds (A - B)).length ≤ 2000000000 := Nat.le_trans (hds_len_mono (by omega)) l1
      refine .call _ rfl E_ref01_of rfl (ref01_of_c (up5.ext e6.size) hz (by omega)) fun v7 w7 e7 h7 => ?_
      rw [valH_hds] at h7
      have hval : sg a.neg (A - B) = zval a + zval b := by
        rw [eva, evb]
        cases h1 : a.neg <;> cases h2 : b.neg <;> rw [h1, h2] at hn <;> first | exact absurd rfl hn | (simp [sg]; omega)
      rw [hval] at h7
      have e67 := e6.trans e7
      refine .storeA (E := eZ) ty_Z rfl rfl (k4.ext e67) rfl rfl h7 hS4 fun w8 k8 u8 h8 => .nil (.ret ?_)
      exact .cell Tryz.results123 rfl ty_Z rfl rfl k8 h8 ⟨u8.below (x5.trans e67) (by omega), hout h8⟩
    · refine .geqF rfl rfl rfl (by unfold cmpN; rw [if_pos (by omega)]; decide) (.nil (.condF rfl (.skip (.seq ?_))))
      refine .par follows 5 [.inl _, .inl (.bool b.neg), .inl _, .inl _, .inr (eHs.at T (hds (valH (hds B) - valH (hds A))))] [[], [(34, 0)], [], [], [(36, 2), (37, 3)]] (by kernel_rfl) ⟨
        fun w e => (v_fa fld_Z0 rfl).ob, fun w e => (v_ld ty_bool rfl (k3.ext e) rfl).ob, fun w e => (v_mv rfl).ob, fun w e => (v_mv rfl).ob,
        fun w e => (g_call _ E_ref01_sub rfl (ref01_sub_c (up5.ext e.size) (ER.ext eHs hy5 e) (ER.ext eHs hx5 e) (by omega) (by rw [valH_hds, valH_hds]; omega))).ob (st_at _ _ _), trivial⟩ ?_
      intro w6 e6 z hz
      rw [valH_hds, valH_hds] at hz
      have l3 : (hds (B - A)).length ≤ 2000000000 := Nat.le_trans (hds_len_mono (by omega)) l2
      refine .call _ rfl E_ref01_of rfl (ref01_of_c (up5.ext e6.size) hz (by omega)) fun v7 w7 e7 h7 => ?_
      rw [valH_hds] at h7
      have hval : sg b.neg (B - A) = zval a + zval b := by
        rw [eva, evb]
        cases h1 : a.neg <;> cases h2 : b.neg <;> rw [h1, h2] at hn <;> first | exact absurd rfl hn | (simp [sg]; omega)
      rw [hval] at h7
      have e67 := e6.trans e7
      refine .storeA (E := eZ) ty_Z rfl rfl (k4.ext e67) rfl rfl h7 hS4 fun w8 k8 u8 h8 => .nil (.ret ?_)
      exact .cell Tryz.results123 rfl ty_Z rfl rfl k8 h8 ⟨u8.below (x5.trans e67) (by omega), hout h8⟩
end Go.Proofs.YtccmemilofoamaaGreat

namespace Go.Kx
theorem gcd_step (a b : Nat) : Nat.gcd b (a % b) = Nat.gcd a b := by rw [Nat.gcd_comm b (a % b), ← Nat.gcd_rec, Nat.gcd_comm]
theorem cmpZ_sign {a b : ZV} (hs : (zval a).sign = (zval b).sign) : cmpI (zval a) (zval b) = if (zval a).sign < 0 then 0 - cmpN (val a.w) (val b.w) else cmpN (val a.w) (val b.w) := by
  have h1 := zval_natAbs a
  have h2 := zval_natAbs b
  generalize zval a = x at *
  generalize zval b = y at *
  rw [← h1, ← h2]
  rcases Int.lt_trichotomy x 0 with h | h | h
  · have e := Int.sign_eq_neg_one_of_neg h
    rw [e] at hs ⊢
    have hy : y < 0 := Int.sign_eq_neg_one_iff_neg.1 hs.symm
    rw [if_pos (by decide)]
    unfold cmpI cmpN
    split <;> split <;> (try split) <;> (try split) <;> omega
  · subst h
    rw [Int.sign_zero] at hs ⊢
    have hy : y = 0 := Int.sign_eq_zero_iff_zero.1 hs.symm
    subst hy
    decide
  · have e := Int.sign_eq_one_of_pos h
    rw [e] at hs ⊢
    have hy : 0 < y := Int.sign_eq_one_iff_pos.1 hs.symm
    rw [if_neg (by decide)]
    unfold cmpI cmpN
    split <;> split <;> (try split) <;> (try split) <;> omega
theorem cmpI_ne {x y : Int} (hs : x.sign ≠ y.sign) : cmpI x y = if x.sign < y.sign then -1 else 1 := by
  have hx := Int.lt_trichotomy x 0
  have hy := Int.lt_trichotomy y 0
  unfold cmpI
  rcases hx with h | h | h <;> rcases hy with h' | h' | h' <;> first
    | (rw [Int.sign_eq_neg_one_of_neg h, Int.sign_eq_neg_one_of_neg h'] at hs; exact absurd rfl hs)
    | (rw [Int.sign_eq_one_of_pos h, Int.sign_eq_one_of_pos h'] at hs; exact absurd rfl hs)
    | (rw [h, h'] at hs; exact absurd rfl hs)
    | (simp only [h, h', Int.sign_eq_neg_one_of_neg, Int.sign_eq_one_of_pos, Int.sign_zero]; (try split) <;> (try split) <;> (try simp_all) <;> omega)
end Go.Kx
namespace Go.Proofs.YtccmemilofoamaaGreat
open Go Go.Kx Go.RowKit

theorem E_ref01_Gcd : Ent Tryz.prog 141 := ent_of Tryz.func141 (by kernel_rfl) rfl
theorem ref01_Gcd_c {S : Nat → Prop} {w : World} {va vb : Value} {a b : ZV} (up : Up S w) (ha : eZ.R S w va a) (hb : eZ.R S w vb b) (hla : a.w.length ≤ 1000000000) (hlb : b.w.length ≤ 1000000000) : CR Tryz.prog 141 #[va, vb] w (eZ.at S (zc (Nat.gcd (val a.w) (val b.w) : Nat))) := by
  obtain ⟨s, rfl, hs⟩ := ha
  obtain ⟨t, rfl, ht⟩ := hb
  refine enter Tryz.func141 rfl Tryz.ntmps141 rfl ?_
  refine .seq (.region (.box rfl rfl fun w1 b2 n1 => .box rfl rfl fun w2 b3 n2 => .alloc rfl zero_Z fun w3 b4 n3 => .nil ?_))
  obtain ⟨e1, k2, hb2, hs1⟩ := n1
  obtain ⟨e2, k3, hb3, hs2⟩ := n2
  obtain ⟨e3, k4, hb4, hs3⟩ := n3
  have x3 := (e1.trans e2).trans e3
  have k2 := (k2.ext e2).ext e3
  have k3 := k3.ext e3
  have hS4 : ¬ Sx S w.heap.size w3.heap.size b4 := Sx.no (by omega) (by omega)
  have up3 : Up (Sx S w.heap.size w3.heap.size) w3 := Sx.up up (Nat.le_refl _) x3.size
  have hs' := (ER.par eW hs w3.heap.size).ext x3
  have ht' := (ER.par eW ht w3.heap.size).ext x3
  have l1 := hv_len hs hla
  have l2 := hv_len ht hlb
  have hout : ∀ {W : World} {v : Value} {z : ZV}, eZ.R (Sx S w.heap.size w3.heap.size) W v z → eZ.R S W v z := fun h => h.out
  generalize hT : Sx S w.heap.size w3.heap.size = T at *
  refine .seq ?_
  refine .par follows 6 [.inl _, .inl s, .inr (eHs.at T (hds (val a.w))), .inl _, .inl t, .inr (eHs.at T (hds (val b.w)))] [[], [(9, 0)], [(10, 1)], [], [(12, 3)], [(13, 4)]] (by kernel_rfl) ⟨
    fun w e => (v_fa fld_Z1 rfl).ob, fun w e => (v_ld ty_W rfl (k2.ext e) rfl).ob, fun w e => (g_call _ E_ref01_halves rfl (ref01_hv_c (up3.ext e.size) (hs'.ext e) hla)).ob (st_at _ _ _),
    fun w e => (v_fa fld_Z1 rfl).ob, fun w e => (v_ld ty_W rfl (k3.ext e) rfl).ob, fun w e => (g_call _ E_ref01_halves rfl (ref01_hv_c (up3.ext e.size) (ht'.ext e) hlb)).ob (st_at _ _ _), trivial⟩ ?_
  intro w4 e4 x hx y hy
  refine .asg rfl rfl (.asg rfl rfl (.nil ?_))
  generalize val a.w = A at *
  generalize val b.w = B at *
  refine .mid (α := Value) (fun p => [(4, .pointer (some ⟨b4, 0, none⟩)), (5, p)]) (fun p W => Ext w4 W ∧ eHs.R T W p (hds (Nat.gcd A B))) ?_ ?_
  · refine .block (.loop (α := (Nat × Nat) × Value × Value) (fun p => [(4, .pointer (some ⟨b4, 0, none⟩)), (5, p.2.1), (6, p.2.2)])
      (fun p W => Ext w4 W ∧ eHs.R T W p.2.1 (hds p.1.1) ∧ eHs.R T W p.2.2 (hds p.1.2) ∧ (hds p.1.1).length ≤ 2000000000 ∧ (hds p.1.2).length ≤ 2000000000 ∧ Nat.gcd p.1.1 p.1.2 = Nat.gcd A B) (fun p => p.1.2) ((A, B), x, y) ?_ ?_ ?_)
    · exact look_cons rfl (look_cons rfl (look_cons rfl look_nil))
    · exact ⟨.refl _, hx, hy, l1, l2, rfl⟩
    · rintro ⟨⟨m, n⟩, u, v⟩ W ⟨hW, hu, hv, hm, hn, hg⟩
      replace hW : Ext w4 W := hW
      replace hu : eHs.R T W u (hds m) := hu
      replace hv : eHs.R T W v (hds n) := hv
      replace hm : (hds m).length ≤ 2000000000 := hm
      replace hn : (hds n).length ≤ 2000000000 := hn
      replace hg : Nat.gcd m n = Nat.gcd A B := hg
      refine .weak [(4, .pointer (some ⟨b4, 0, none⟩)), (5, u), (6, v)] (fun t v h => h) ?_
      refine .seq (.seq (.region (.mv rfl rfl (.lenR un_H rfl rfl hv ?_))))
      by_cases h0 : n = 0
      · subst h0
        rw [hds_zero]
        refine .gtrF rfl rfl rfl (by simp) (.nil (.condF rfl (.exit ?_)))
        rw [Nat.gcd_zero_right] at hg
        exact ⟨rfl, u, look_cons rfl (look_cons rfl look_nil), hW, hg ▸ hu⟩
      · have hne : (hds n).length ≠ 0 := fun e => h0 (hds_eq_nil.1 (List.length_eq_zero_iff.1 e))
        refine .gtrT rfl rfl rfl (by omega) (.nil (.condT rfl (.skip (.block (.seq (.region (.mv rfl rfl (.mv rfl rfl ?_))))))))
        refine .call _ rfl E_ref01_div rfl (ref01_div_c ((up3.ext e4.size).ext hW.size) hu hv (by omega) (by omega) h0) fun z W2 f2 h2 => ?_
        obtain ⟨vq, vr, rfl, hq, hr⟩ := h2
        refine .mv rfl rfl (.ext rfl rfl rfl (.ext rfl rfl rfl (.asg rfl rfl (.asg rfl rfl (.nil ?_)))))
        refine .region (.mv rfl rfl (.mv rfl rfl (.asg rfl rfl (.asg rfl rfl (.nil ?_)))))
        have hlt : m % n < n := Nat.mod_lt _ (by omega)
        exact ⟨rfl, ((n, m % n), v, vr), look_cons rfl (look_cons rfl (look_cons rfl look_nil)), ⟨hW.trans f2, ER.ext eHs hv f2, hr, hn, Nat.le_trans (hds_len_mono (Nat.le_of_lt hlt)) hn, (gcd_step m n).trans hg⟩, hlt⟩
  · rintro u W ⟨hW, hu⟩
    have e5 := e4.trans hW
    have lg : (hds (Nat.gcd A B)).length ≤ 2000000001 := by
      have h1 : Nat.gcd A B ≤ A + B := by
        rcases Nat.eq_zero_or_pos A with h | h
        · subst h; rw [Nat.gcd_zero_left]; omega
        · have := Nat.gcd_le_left B h; omega
      exact Nat.le_trans (hds_len_mono h1) (hds_add_len l1 l2)
    refine .seq (.region (.mv rfl rfl ?_))
    refine .call _ rfl E_ref01_of rfl (ref01_of_c (up3.ext e5.size) hu (by omega)) fun v6 w6 e6 h6 => ?_
    rw [valH_hds] at h6
    have e56 := e5.trans e6
    refine .storeA (E := eZ) ty_Z rfl rfl (k4.ext e56) rfl rfl h6 hS4 fun w7 k7 u7 h7 => .nil (.ret ?_)
    exact .cell Tryz.results141 rfl ty_Z rfl rfl k7 h7 ⟨u7.below (x3.trans e56) (by omega), hout h7⟩

theorem E_ref01_Div : Ent Tryz.prog 142 := ent_of Tryz.func142 (by kernel_rfl) rfl
theorem ref01_Div_c {S : Nat → Prop} {w : World} {va vb : Value} {a b : ZV} (up : Up S w) (ha : eZ.R S w va a) (hb : eZ.R S w vb b) (hla : a.w.length ≤ 1000000000) (hlb : b.w.length ≤ 1000000000) (hb0 : zval b ≠ 0) :
    CR Tryz.prog 142 #[va, vb] w (Three (eZ.at S (zc (zval a / zval b))) (eZ.at S (zc (zval a % zval b))) (Is (.int .i64 0))) := by
  obtain ⟨s, rfl, hs⟩ := ha
  obtain ⟨t, rfl, ht⟩ := hb
  refine enter Tryz.func142 rfl Tryz.ntmps142 rfl ?_
  refine .seq (.region (.box rfl rfl fun w1 b2 n1 => .box rfl rfl fun w2 b3 n2 => .alloc rfl zero_Z fun w3 b4 n3 => .alloc rfl zero_Z fun w4 b5 n4 => .asg rfl rfl (.nil ?_)))
  obtain ⟨e1, k2, hb2, hs1⟩ := n1
  obtain ⟨e2, k3, hb3, hs2⟩ := n2
  obtain ⟨e3, k4, hb4, hs3⟩ := n3
  obtain ⟨e4, k5, hb5, hs4⟩ := n4
  have x4 := ((e1.trans e2).trans e3).trans e4
  have k2 := ((k2.ext e2).ext e3).ext e4
  have k3 := (k3.ext e3).ext e4
  have k4 := k4.ext e4
  have hS4 : ¬ Sx S w.heap.size w4.heap.size b4 := Sx.no (by omega) (by omega)
  have hS5 : ¬ Sx S w.heap.size w4.heap.size b5 := Sx.no (by omega) (by omega)
  have hne : b5 ≠ b4 := by omega
  have up4 : Up (Sx S w.heap.size w4.heap.size) w4 := Sx.up up (Nat.le_refl _) x4.size
  have hs' := (ER.par eW hs w4.heap.size).ext x4
  have ht' := (ER.par eW ht w4.heap.size).ext x4
  have l1 := hv_len hs hla
  have l2 := hv_len ht hlb
  have hout : ∀ {W : World} {v : Value} {z : ZV}, eZ.R (Sx S w.heap.size w4.heap.size) W v z → eZ.R S W v z := fun h => h.out
  generalize hT : Sx S w.heap.size w4.heap.size = T at *
  refine .seq ?_
  refine .par follows 6 [.inl _, .inl s, .inr (eHs.at T (hds (val a.w))), .inl _, .inl t, .inr (eHs.at T (hds (val b.w)))] [[], [(11, 0)], [(12, 1)], [], [(14, 3)], [(15, 4)]] (by kernel_rfl) ⟨
    fun w e => (v_fa fld_Z1 rfl).ob, fun w e => (v_ld ty_W rfl (k2.ext e) rfl).ob, fun w e => (g_call _ E_ref01_halves rfl (ref01_hv_c (up4.ext e.size) (hs'.ext e) hla)).ob (st_at _ _ _),
    fun w e => (v_fa fld_Z1 rfl).ob, fun w e => (v_ld ty_W rfl (k3.ext e) rfl).ob, fun w e => (g_call _ E_ref01_halves rfl (ref01_hv_c (up4.ext e.size) (ht'.ext e) hlb)).ob (st_at _ _ _), trivial⟩ ?_
  intro w5 e5 x hx y hy
  refine .asg rfl rfl (.asg rfl rfl (.nil ?_))
  have hB0 : 0 < val b.w := by
    rcases Nat.eq_zero_or_pos (val b.w) with h | h
    · exact absurd (by unfold zval sg; rw [h]; simp) hb0
    · exact h
  have eva := zval_mk a
  have evb := zval_mk b
  generalize val a.w = A at *
  generalize val b.w = B at *
  have hne0 : (hds B).length ≠ 0 := fun e => by have := hds_eq_nil.1 (List.length_eq_zero_iff.1 e); omega
  refine .seq (.seq (.region (.mv rfl rfl (.lenR un_H rfl rfl hy (.eqlF rfl rfl rfl (by omega) (.nil (.condF rfl (.skip ?_))))))))
  have up5 := up4.ext e5.size
  refine .seq (.region (.mv rfl rfl (.mv rfl rfl ?_)))
  refine .call _ rfl E_ref01_div rfl (ref01_div_c up5 hx hy (by omega) (by omega) (by omega)) fun z w6 e6 h6 => ?_
  obtain ⟨vq, vr, rfl, hq, hr⟩ := h6
  refine .mv rfl rfl (.ext rfl rfl rfl (.ext rfl rfl rfl (.asg rfl rfl (.asg rfl rfl (.nil ?_)))))
  have e56 := e5.trans e6
  have x6 := x4.trans e56
  have up6 := up5.ext e6.size
  have k2 := k2.ext e56
  have k3 := k3.ext e56
  have k4 := k4.ext e56
  have k5 := k5.ext e56
  have hy6 := ER.ext eHs hy e6
  have lq : (hds (A / B)).length ≤ 2000000000 := Nat.le_trans (hds_len_mono (Nat.div_le_self _ _)) l1
  have lr : (hds (A % B)).length ≤ 2000000000 := Nat.le_trans (hds_len_mono (Nat.mod_le _ _)) l1
  refine .mid (α := (Nat × Nat) × Value × Value) (fun z => [(2, .pointer (some ⟨b2, 0, none⟩)), (3, .pointer (some ⟨b3, 0, none⟩)), (4, .pointer (some ⟨b4, 0, none⟩)), (5, .pointer (some ⟨b5, 0, none⟩)), (9, z.2.1), (10, z.2.2)])
    (fun z W => Ext w6 W ∧ eHs.R T W z.2.1 (hds z.1.1) ∧ eHs.R T W z.2.2 (hds z.1.2) ∧ (hds z.1.1).length ≤ 2000000002 ∧ (hds z.1.2).length ≤ 2000000002 ∧ zval a / zval b = sg (a.neg != b.neg) z.1.1 ∧ zval a % zval b = sg false z.1.2) ?_ ?_
  · refine .seq (.region (.fa fld_Z0 rfl rfl (.ld ty_bool rfl rfl k2 rfl (.mv rfl rfl ?_))))
    cases hn : a.neg with
    | false =>
      refine .gs rfl rfl rfl rfl rfl (.gs rfl rfl rfl rfl rfl (.gs rfl rfl rfl rfl rfl (.pick rfl rfl rfl (.nil (.condF rfl (.skip ?_))))))
      obtain ⟨d1, d2⟩ := divmod_pos (p := false) (q := b.neg) (A := A) hB0 (.inl rfl)
      refine ⟨rfl, ((A / B, A % B), vq, vr), look_cons rfl (look_cons rfl (look_cons rfl (look_cons rfl (look_cons rfl (look_cons rfl look_nil))))), .refl _, hq, hr, Nat.le_trans lq (by omega), Nat.le_trans lr (by omega), ?_, ?_⟩
      · rw [eva, evb, hn]; exact d1
      · rw [eva, evb, hn]; exact d2
    | true =>
      refine .gr rfl rfl rfl rfl (.mv rfl rfl (.gr rfl rfl rfl rfl (.lenR un_H rfl rfl hr (.gr rfl rfl rfl rfl ?_))))
      by_cases h0 : A % B = 0
      · rw [h0, hds_zero]
        refine .gtrF rfl rfl rfl (by simp) (.pick rfl rfl rfl (.nil (.condF rfl (.skip ?_))))
        obtain ⟨d1, d2⟩ := divmod_pos (p := true) (q := b.neg) (A := A) hB0 (.inr h0)
        refine ⟨rfl, ((A / B, A % B), vq, vr), look_cons rfl (look_cons rfl (look_cons rfl (look_cons rfl (look_cons rfl (look_cons rfl look_nil))))), .refl _, hq, hr, Nat.le_trans lq (by omega), Nat.le_trans lr (by omega), ?_, ?_⟩
        · rw [eva, evb, hn]; exact d1
        · rw [eva, evb, hn]; exact d2
      · have hne : (hds (A % B)).length ≠ 0 := fun e => h0 (hds_eq_nil.1 (List.length_eq_zero_iff.1 e))
        refine .gtrT rfl rfl rfl (by omega) (.pick rfl rfl rfl (.nil (.condT rfl (.seq (.region (.mv rfl rfl (.bsl _ rfl rfl bsl_H1 fun w7 b7 n7 => ?_)))))))
        have hd1 : digH [1] := by intro x hx; simp at hx; omega
        have ho : OwnH 3 w6.heap.size w7 (.slice (some ⟨b7, 0, none⟩) 1 1) [1] := OwnH.lit (l := [1]) n7 (Nat.le_refl _) hd1 (by simp)
        obtain ⟨e7, _, _, _⟩ := n7
        refine .call _ rfl E_ref01_add rfl (ref01_add_c (S := T) (up6.ext e7.size) (ER.ext eHs hq e7) (ho.toR up6) (by omega) (by simp)) fun v8 w8 e8 h8 => .asg rfl rfl (.nil ?_)
        rw [valH_hds, show valH [1] = 1 by rfl] at h8
        have e78 := e7.trans e8
        refine .region (.mv rfl rfl (.mv rfl rfl ?_))
        have hm := Nat.mod_lt A hB0
        refine .call _ rfl E_ref01_sub rfl (ref01_sub_c (S := T) (up6.ext e78.size) (ER.ext eHs hy6 e78) (ER.ext eHs hr e78) (by omega) (by rw [valH_hds, valH_hds]; omega)) fun v9 w9 e9 h9 => .asg rfl rfl (.nil ?_)
        rw [valH_hds, valH_hds] at h9
        obtain ⟨d1, d2⟩ := divmod_neg (q := b.neg) (A := A) hB0 (by omega)
        refine ⟨rfl, ((A / B + 1, B - A % B), v8, v9), look_cons rfl (look_cons rfl (look_cons rfl (look_cons rfl (look_cons rfl (look_cons rfl look_nil))))), e78.trans e9, ER.ext eHs h8 e9, h9, ?_, ?_, ?_, ?_⟩
        · exact Nat.le_trans (hds_add_len lq (B := 1) (Nat.le_trans (hds_length (L := 1) (by decide)) (by omega))) (by omega)
        · exact Nat.le_trans (hds_len_mono (Nat.sub_le _ _)) (by omega)
        · rw [eva, evb, hn]; exact d1
        · rw [eva, evb, hn]; exact d2
  · rintro ⟨⟨q, r⟩, vq, vr⟩ W ⟨hW, hq, hr, lq, lr, d1, d2⟩
    replace hW : Ext w6 W := hW
    replace hq : eHs.R T W vq (hds q) := hq
    replace hr : eHs.R T W vr (hds r) := hr
    replace lq : (hds q).length ≤ 2000000002 := lq
    replace lr : (hds r).length ≤ 2000000002 := lr
    replace d1 : zval a / zval b = sg (a.neg != b.neg) q := d1
    replace d2 : zval a % zval b = sg false r := d2
    refine .weak [(2, .pointer (some ⟨b2, 0, none⟩)), (3, .pointer (some ⟨b3, 0, none⟩)), (4, .pointer (some ⟨b4, 0, none⟩)), (5, .pointer (some ⟨b5, 0, none⟩)), (9, vq), (10, vr)] (fun t v h => h) ?_
    have k2 := k2.ext hW
    have k3 := k3.ext hW
    have k4 := k4.ext hW
    have k5 := k5.ext hW
    have upW := up6.ext hW.size
    refine .seq (.region (.fa fld_Z0 rfl rfl (.ld ty_bool rfl rfl k2 rfl (.fa fld_Z0 rfl rfl (.ld ty_bool rfl rfl k3 rfl (.neqB un_bool rfl rfl rfl (.mv rfl rfl ?_)))))))
    refine .call _ rfl E_ref01_of rfl (ref01_of_c upW hq (by omega)) fun v7 w7 e7 h7 => .mv rfl rfl ?_
    rw [valH_hds, ← d1] at h7
    refine .call _ rfl E_ref01_of rfl (ref01_of_c (upW.ext e7.size) (ER.ext eHs hr e7) (by omega)) fun v8 w8 e8 h8 => ?_
    rw [valH_hds, ← d2] at h8
    have e78 := e7.trans e8
    refine .storeA (E := eZ) ty_Z rfl rfl (k4.ext e78) rfl rfl (ER.ext eZ h7 e8) hS4 fun w9 k9 u9 h9 => ?_
    refine .storeA (E := eZ) ty_Z rfl rfl ((k5.ext e78).upd u9 hne) rfl rfl (ER.upd eZ h8 u9 hS4) hS5 fun w10 k10 u10 h10 => .asg rfl rfl (.nil (.ret ?_))
    exact .plain [_, _, _] Tryz.results142 ⟨⟨_, rfl, load_cell (E := eZ) ty_Z rfl rfl (k9.upd u10 (Ne.symm hne)) (ER.upd eZ h9 u10 hS5)⟩, ⟨_, rfl, load_cell (E := eZ) ty_Z rfl rfl k10 h10⟩, rfl, trivial⟩
      ⟨u10.below (u9.below ((x6.trans hW).trans e78) (by omega)) (by omega), _, _, _, rfl, hout (ER.upd eZ h9 u10 hS5), hout h10, rfl⟩

theorem E_ref01_Cmp : Ent Tryz.prog 143 := ent_of Tryz.func143 (by kernel_rfl) rfl
theorem ref01_Cmp_c {S : Nat → Prop} {w : World} {va vb : Value} {a b : ZV} (up : Up S w) (ha : eZ.R S w va a) (hb : eZ.R S w vb b) (hla : a.w.length ≤ 1000000000) (hlb : b.w.length ≤ 1000000000) : CR Tryz.prog 143 #[va, vb] w (Is (.int .i64 (cmpI (zval a) (zval b)))) := by
  have ha0 := ha
  have hb0 := hb
  obtain ⟨s, rfl, hs⟩ := ha
  obtain ⟨t, rfl, ht⟩ := hb
  refine enter Tryz.func143 rfl Tryz.ntmps143 rfl ?_
  refine .seq (.region (.box rfl rfl fun w1 b2 n1 => .box rfl rfl fun w2 b3 n2 => .asg rfl rfl (.nil ?_)))
  obtain ⟨e1, k2, hb2, hs1⟩ := n1
  obtain ⟨e2, k3, hb3, hs2⟩ := n2
  have x2 := e1.trans e2
  have k2 := k2.ext e2
  have up2 := up.ext x2.size
  have ha2 := ER.ext eZ ha0 x2
  have hb2' := ER.ext eZ hb0 x2
  have eva := zval_mk a
  have evb := zval_mk b
  refine .seq (.seq ?_)
  refine .par follows 5 [.inl (.agg #[.bool a.neg, s]), .inl (.int .i64 (zval a).sign), .inl (.agg #[.bool b.neg, t]), .inl (.int .i64 (zval b).sign), .inl (.bool ((zval a).sign != (zval b).sign))] [[], [(6, 0)], [], [(8, 2)], [(7, 1), (9, 3)]] (by kernel_rfl) ⟨
    fun w e => (v_ldA ty_Z rfl (k2.ext e) rfl).ob, fun w e => g_call _ E_ref01_Sign rfl (ref01_Sign_c (up2.ext e.size) (ER.ext eZ ha2 e) hla),
    fun w e => (v_ldA ty_Z rfl (k3.ext e) rfl).ob, fun w e => g_call _ E_ref01_Sign rfl (ref01_Sign_c (up2.ext e.size) (ER.ext eZ hb2' e) hlb), fun w e => (v_neq rfl rfl).ob, trivial⟩ ?_
  intro w3 e3
  have x3 := x2.trans e3
  have up3 := up2.ext e3.size
  have k2 := k2.ext e3
  have k3 := k3.ext e3
  have ha3 := ER.ext eZ ha2 e3
  have hb3 := ER.ext eZ hb2' e3
  by_cases hsg : (zval a).sign = (zval b).sign
  · rw [show ((zval a).sign != (zval b).sign) = false by simpa using hsg]
    refine .nil (.condF rfl (.skip (.seq ?_)))
    have hs' := ER.ext eW hs x3
    have ht' := ER.ext eW ht x3
    have l1 := hv_len hs hla
    have l2 := hv_len ht hlb
    have hc := cmpZ_sign hsg
    refine .par follows 7 [.inl _, .inl s, .inr (eHs.at S (hds (val a.w))), .inl _, .inl t, .inr (eHs.at S (hds (val b.w))), .inl (.int .i64 (cmpN (valH (hds (val a.w))) (valH (hds (val b.w)))))] [[], [(16, 0)], [(17, 1)], [], [(19, 3)], [(20, 4)], [(18, 2), (21, 5)]] (by kernel_rfl) ⟨
      fun w e => (v_fa fld_Z1 rfl).ob, fun w e => (v_ld ty_W rfl (k2.ext e) rfl).ob, fun w e => (g_call _ E_ref01_halves rfl (ref01_hv_c (up3.ext e.size) (hs'.ext e) hla)).ob (st_at _ _ _),
      fun w e => (v_fa fld_Z1 rfl).ob, fun w e => (v_ld ty_W rfl (k3.ext e) rfl).ob, fun w e => (g_call _ E_ref01_halves rfl (ref01_hv_c (up3.ext e.size) (ht'.ext e) hlb)).ob (st_at _ _ _),
      fun w e x hx y hy => g_call _ E_ref01_cmp rfl (ref01_cmp_c hx hy (by omega) (by omega)), trivial⟩ ?_
    intro w4 e4 x hx y hy
    rw [valH_hds, valH_hds]
    refine .asg rfl rfl (.nil (.seq (.seq (.region (.ldA ty_Z rfl rfl (k2.ext e4) rfl ?_)))))
    refine .call _ rfl E_ref01_Sign rfl (ref01_Sign_c (up3.ext e4.size) (ER.ext eZ ha3 e4) hla) fun v5 w5 e5 h5 => ?_
    subst h5
    have x5 := (x3.trans e4).trans e5
    by_cases hn : (zval a).sign < 0
    · rw [if_pos hn] at hc
      refine .lssT rfl rfl rfl hn (.nil (.condT rfl (.seq (.region (.mv rfl rfl (.neg rfl rfl (.asg rfl rfl (.nil (.ret ?_)))))))))
      exact .plain [_] Tryz.results143 ⟨rfl, trivial⟩ ⟨x5, isI (by rw [hc, wI (by unfold cmpN; split <;> (try split) <;> omega)])⟩
    · rw [if_neg hn] at hc
      refine .lssF rfl rfl rfl hn (.nil (.condF rfl (.skip (.seq (.region (.mv rfl rfl (.asg rfl rfl (.nil (.ret ?_)))))))))
      exact .plain [_] Tryz.results143 ⟨rfl, trivial⟩ ⟨x5, isI (by rw [hc])⟩
  · rw [show ((zval a).sign != (zval b).sign) = true by simpa using hsg]
    refine .nil (.condT rfl (.seq (.seq ?_)))
    have hc := cmpI_ne hsg
    refine .par follows 5 [.inl (.agg #[.bool a.neg, s]), .inl (.int .i64 (zval a).sign), .inl (.agg #[.bool b.neg, t]), .inl (.int .i64 (zval b).sign), .inl (.bool (decide ((zval a).sign < (zval b).sign)))] [[], [(11, 0)], [], [(13, 2)], [(12, 1), (14, 3)]] (by kernel_rfl) ⟨
      fun w e => (v_ldA ty_Z rfl (k2.ext e) rfl).ob, fun w e => g_call _ E_ref01_Sign rfl (ref01_Sign_c (up3.ext e.size) (ER.ext eZ ha3 e) hla),
      fun w e => (v_ldA ty_Z rfl (k3.ext e) rfl).ob, fun w e => g_call _ E_ref01_Sign rfl (ref01_Sign_c (up3.ext e.size) (ER.ext eZ hb3 e) hlb), fun w e => (v_lss rfl rfl).ob, trivial⟩ ?_
    intro w4 e4
    by_cases hn : (zval a).sign < (zval b).sign
    · rw [if_pos hn] at hc
      rw [show decide ((zval a).sign < (zval b).sign) = true by simpa using hn]
      refine .nil (.condT rfl (.seq (.region (.asg rfl rfl (.nil (.ret ?_))))))
      exact .plain [_] Tryz.results143 ⟨rfl, trivial⟩ ⟨x3.trans e4, isI (by rw [hc])⟩
    · rw [if_neg hn] at hc
      rw [show decide ((zval a).sign < (zval b).sign) = false by simpa using hn]
      refine .nil (.condF rfl (.skip (.seq (.region (.asg rfl rfl (.nil (.ret ?_)))))))
      exact .plain [_] Tryz.results143 ⟨rfl, trivial⟩ ⟨x3.trans e4, isI (by rw [hc])⟩
end Go.Proofs.YtccmemilofoamaaGreat

namespace Go.Kx
open Go Go.RowKit
def isAl (o : Oper) : Bool := match o.op with | .alloc _ => true | _ => false
/-- the new cells of a region -/
def AlOk (P : Program) (w0 : World) : List Oper → List Sp → Prop
  | o :: os, s :: ss => (isAl o = true → ∃ t z B, o.op = .alloc t ∧ o.guard = none ∧ zeroOf P t = some z ∧ s = .inr (NewP B t z.cells) ∧ B ≤ w0.heap.size) ∧ AlOk P w0 os ss
  | _, _ => True
theorem AlOk.at_ {P : Program} {w0 : World} : ∀ {os : List Oper} {ss : List Sp}, AlOk P w0 os ss → ∀ (i : Nat) (o : Oper) (s : Sp), os[i]? = some o → ss[i]? = some s → isAl o = true → ∃ t z B, o.op = .alloc t ∧ o.guard = none ∧ zeroOf P t = some z ∧ s = .inr (NewP B t z.cells) ∧ B ≤ w0.heap.size
  | [], ss, _, i, o, s, h1, _, _ => by simp at h1
  | o' :: os, [], _, i, o, s, _, h2, _ => by simp at h2
  | o' :: os, s' :: ss, h, 0, o, s, h1, h2, h3 => by simp at h1 h2; subst h1; subst h2; exact h.1 h3
  | o' :: os, s' :: ss, h, i + 1, o, s, h1, h2, h3 => AlOk.at_ h.2 i o s (by simpa using h1) (by simpa using h2) h3
/-- the slots of the new cells hold different values -/
def Apart (ops : List Oper) (σ : Env) : Prop := ∀ t t' v v', t ≠ t' → (∃ o ∈ ops, isAl o = true ∧ o.dst = some t) → (∃ o ∈ ops, isAl o = true ∧ o.dst = some t') → look σ t = some v → look σ t' = some v' → v ≠ v'
/-- what holds while the head runs -/
structure InvF (N : Nat) (ds : List Deferred) (ops : List Oper) (w0 : World) (h : Nat) (sp : List Sp) (a0 : Act) (listed : Array Bool) (a : Act) (w : World) : Prop where
  size : a.tmps.size = N
  defs : a.defers = ds
  ext : Ext w0 w
  vals : ∀ (i : Nat) (o : Oper) (s : Sp) (t : Tmp), i < h → ops[i]? = some o → sp[i]? = some s → isL listed i → o.dst = some t → Sp.ok s (a.tmps.getD t undef) w
  old : ∀ t, (∀ (i : Nat) (o : Oper), i < h → ops[i]? = some o → isL listed i → o.dst ≠ some t) → a.tmps.getD t undef = a0.tmps.getD t undef
  shut : ∀ (i : Nat) (o : Oper), ops[i]? = some o → isL listed i → ∀ j, edgeTo o j = true → isL listed j
  head : ∀ i, h ≤ i → ¬ isL listed i
  dis : ∀ (i j : Nat) (oi oj : Oper) (t t' : Tmp), i < h → j < h → i ≠ j → ops[i]? = some oi → ops[j]? = some oj → isL listed i → isL listed j → isAl oi = true → isAl oj = true → oi.dst = some t → oj.dst = some t' → a.tmps.getD t undef ≠ a.tmps.getD t' undef
  low : ∀ (i : Nat) (o : Oper) (t : Tmp), i < h → ops[i]? = some o → isL listed i → isAl o = true → o.dst = some t → ∃ b, a.tmps.getD t undef = .pointer (some ⟨b, 0, none⟩) ∧ b < w.heap.size
section
variable {P : Program} {ro : Option Nat} {N : Nat} {ds : List Deferred} {ops : List Oper} {K : Env → World → Prop} {σ0 : Env} {w0 : World} {h : Nat} {sp : List Sp} {deps : List (List (Tmp × Nat))} {a0 : Act}
section
variable {Q : Exit → Act → World → Prop}
set_option maxHeartbeats 1600000 in
theorem parF_any (hchk : okPar ops N h deps = true) (ha0 : Agr N σ0 ds a0) (hob : Obs P w0 σ0 (ops.take h) sp (ops.take h) sp deps) (hal : AlOk P w0 (ops.take h) sp)
    (hfin : ∀ w, Ext w0 w → finQ (fun σ w => Apart (ops.take h) σ → ∀ a, Agr N σ ds a → wpListIn (wf ro) 0 P ops.toArray Q (ops.drop h) a w) w (ops.take h) sp σ0) :
    ∀ (fuel : Nat) (listed : Array Bool) (a : Act) (w : World), listed.size = ops.length → cnt listed ops.length ≤ fuel →
      (InvF N ds ops w0 h sp a0 listed a w ∨ ∃ p, h ≤ p ∧ p ≤ ops.length ∧ (∀ j, j < p → isL listed j) ∧ (∀ j, p ≤ j → ¬ isL listed j) ∧ wpListIn (wf ro) 0 P ops.toArray Q (ops.drop p) a w) →
      wpAnyIn (wf ro) 0 P .any ops.toArray Q fuel listed a w := by
  simp only [okPar, Bool.and_eq_true, List.all_eq_true, Nat.ble_eq] at hchk
  obtain ⟨⟨⟨hback, hnd⟩, hall⟩, hle⟩ := hchk
  have hback' : ∀ (i : Nat) (o : Oper), ops[i]? = some o → ∀ j, edgeTo o j = true → j < i := by
    intro i o hi j hj
    have := hback (o, i) (by rw [List.mem_zipIdx_iff_getElem?]; exact hi)
    obtain ⟨e, he, hb, rfl⟩ := edgeTo_spec.1 hj
    simp only [okBack, Array.all_eq_true', Bool.or_eq_true, Bool.not_eq_true', Nat.blt_eq] at this
    rcases this e he with h | h
    · rw [hb] at h; cases h
    · exact h
  have hop : ∀ (i : Nat) (o : Oper), i < h → ops[i]? = some o → okOp (ops.take h) N i o (deps.getD i []) = true := by
    intro i o hi ho
    have := hall (o, i) (by rw [List.mem_zipIdx_iff_getElem?]; exact ho)
    simpa [Nat.blt_eq, hi] using this
  have htail : ∀ (listed : Array Bool), (∀ (i : Nat) (o : Oper), ops[i]? = some o → isL listed i → ∀ j, edgeTo o j = true → isL listed j) → ∀ (i : Nat) (o : Oper), h ≤ i → ops[i]? = some o → (∀ j, edgeTo o j = true → isL listed j) → ∀ j, j < i → isL listed j := by
    intro listed shut i o hi ho hed j hj
    have := hall (o, i) (by rw [List.mem_zipIdx_iff_getElem?]; exact ho)
    have hn : Nat.blt i h = false := by
      cases hh : Nat.blt i h with
      | false => rfl
      | true => rw [Nat.blt_eq] at hh; omega
    simp only [hn, Bool.false_eq_true, if_false, okTail, List.all_eq_true, List.mem_range] at this
    obtain ⟨x, hx, hxe⟩ := List.any_eq_true.1 (this j hj)
    have hxj : j = x := Nat.eq_of_beq_eq_true hxe
    subst hxj
    refine closeB_listed shut _ _ (fun k hk => ?_) j hx
    simp only [edgesOf, List.mem_filterMap] at hk
    obtain ⟨e, he, hb⟩ := hk
    have hbb : Region.binds .any e = true := by
      cases h' : Region.binds .any e with
      | true => rfl
      | false => rw [h'] at hb; simp at hb
    rw [hbb] at hb
    simp at hb
    exact hed k (edgeTo_spec.2 ⟨e, by simpa using he, hbb, hb⟩)
  have htake : ∀ i, i < h → (ops.take h)[i]? = ops[i]? := fun i hi => by rw [List.getElem?_take, if_pos hi]
  have hlen := Obs.len hob
  have hlt : (ops.take h).length = h := by simp; omega
  -- all of the head has run
  have toB : ∀ listed a w, InvF N ds ops w0 h sp a0 listed a w → (∀ i, i < h → isL listed i) → wpListIn (wf ro) 0 P ops.toArray Q (ops.drop h) a w := by
    intro listed a w hI hl
    have hmem : ∀ o ∈ ops.take h, ∃ i, i < h ∧ ops[i]? = some o := by
      intro o ho
      obtain ⟨i, hi⟩ := List.mem_iff_getElem?.1 ho
      have hi' : i < h := by
        rcases Nat.lt_or_ge i h with hh | hh
        · exact hh
        · rw [List.getElem?_eq_none (by omega)] at hi; cases hi
      exact ⟨i, hi', by rw [← htake i hi']; exact hi⟩
    have hsome : ∀ o ∈ ops.take h, dOk N o.dst = true ∧ o.dst.isSome = true := by
      intro o ho
      obtain ⟨i, hi, ho⟩ := hmem o ho
      have := hop i o hi ho
      simp only [okOp, Bool.and_eq_true] at this
      exact ⟨this.1.1.1.1.1, this.1.1.1.1.2⟩
    obtain ⟨σ', hag, hk⟩ := finQ_use (N := N) (ds := ds) (ops.take h) sp σ0 a hlen (hfin w hI.ext) (fun o ho => (hsome o ho).1)
      (fun i o s t h1 h2 h3 => by
        have hi' : i < h := by
          rcases Nat.lt_or_ge i h with hh | hh
          · exact hh
          · rw [List.getElem?_eq_none (by omega)] at h1; cases h1
        exact hI.vals i o s t hi' (by rw [← htake i hi']; exact h1) h2 (hl i hi') h3)
      (fun t v hv hno => by
        rw [hI.old t (fun i o hi ho _ => hno o (List.mem_iff_getElem?.2 ⟨i, by rw [htake i hi]; exact ho⟩))]
        exact ha0.slot t v hv)
      (nodupB_spec hnd) hI.size hI.defs
      (fun i o s h1 h2 h3 => by
        have := (hsome o (List.mem_iff_getElem?.2 ⟨i, h1⟩)).2
        rw [h3] at this; cases this)
    refine hk (fun t t' v v' htt ⟨o, ho, hoa, hod⟩ ⟨o', ho', hoa', hod'⟩ hv hv' => ?_) a hag
    obtain ⟨i, hi, hio⟩ := hmem o ho
    obtain ⟨j, hj, hjo⟩ := hmem o' ho'
    have hij : i ≠ j := by
      intro e; subst e; rw [hio] at hjo; cases hjo; rw [hod] at hod'; cases hod'; exact htt rfl
    have := hI.dis i j o o' t t' hi hj hij hio hjo (hl i hi) (hl j hj) hoa hoa' hod hod'
    rw [hag.slot t v hv, hag.slot t' v' hv'] at this
    exact this
  -- where nothing is ready all has run
  have allL : ∀ listed : Array Bool, listed.size = ops.length → Region.ready .any ops.toArray listed = [] → ∀ i, i < ops.length → isL listed i := by
    intro listed hsz hr i
    induction i using Nat.strongRecOn with
    | _ i ih =>
      intro hi
      by_cases hh : isL listed i
      · exact hh
      · have : i ∈ Region.ready .any ops.toArray listed := by
          refine mem_ready.2 ⟨by simpa using hi, (getD_of_isL (by omega)).2 hh, fun o ho j hj => ?_⟩
          have := hback' i o (by simpa using ho) j hj
          exact ih j this (by omega)
        rw [hr] at this; cases this
  have done : ∀ listed a w, (∀ i, i < ops.length → isL listed i) → (InvF N ds ops w0 h sp a0 listed a w ∨ ∃ p, h ≤ p ∧ p ≤ ops.length ∧ (∀ j, j < p → isL listed j) ∧ (∀ j, p ≤ j → ¬ isL listed j) ∧ wpListIn (wf ro) 0 P ops.toArray Q (ops.drop p) a w) → Q .normal a w := by
    intro listed a w hl hJ
    rcases hJ with hI | ⟨p, hp, hpn, _, hno, hwp⟩
    · have hn : ops.length ≤ h := Nat.le_of_not_lt fun hh => hI.head h (Nat.le_refl _) (hl h hh)
      have := toB listed a w hI (fun i hi => hl i (by omega))
      rw [List.drop_of_length_le hn] at this
      exact this
    · have hn : ops.length ≤ p := Nat.le_of_not_lt fun hh => hno p (Nat.le_refl _) (hl p hh)
      rw [List.drop_of_length_le hn] at hwp
      exact hwp
  intro fuel
  induction fuel with
  | zero =>
    intro listed a w hsz hc hJ
    have hl : ∀ i, i < ops.length → isL listed i := by
      intro i hi
      have := cnt_zero listed ops.length (by omega) i hi
      by_cases hh : isL listed i
      · exact hh
      · have := (getD_of_isL (by omega : i < listed.size)).2 hh
        simp_all
    refine ⟨?_, done listed a w hl hJ⟩
    refine List.eq_nil_iff_forall_not_mem.2 fun i hi => ?_
    obtain ⟨h1, h2, _⟩ := mem_ready.1 hi
    have h1' : i < ops.length := by simpa using h1
    exact (getD_of_isL (by omega)).1 h2 (hl i h1')
  | succ fuel ih =>
    intro listed a w hsz hc hJ
    refine ⟨fun hr => done listed a w (allL listed hsz hr) hJ, fun i hi => ?_⟩
    obtain ⟨hin, hun, hed⟩ := mem_ready.1 hi
    have hin' : i < ops.length := by simpa using hin
    have hunl : ¬ isL listed i := (getD_of_isL (by omega)).1 hun
    obtain ⟨o, ho⟩ : ∃ o, ops[i]? = some o := ⟨_, List.getElem?_eq_getElem hin'⟩
    have hed' : ∀ j, edgeTo o j = true → isL listed j := hed o (by simpa using ho)
    have hsz' : (listed.setIfInBounds i true).size = ops.length := by simpa using hsz
    have hcnt : cnt (listed.setIfInBounds i true) ops.length ≤ fuel := by
      have := cnt_set_lt listed i hun ops.length hin'
      omega
    -- the tail's next
    have tailStep : h ≤ i → (∀ j, j < i → isL listed j) → (∀ j, i ≤ j → ¬ isL listed j) → wpListIn (wf ro) 0 P ops.toArray Q (ops.drop i) a w →
        wpOpIn (wf ro) 0 P ops.toArray Q i (wpAnyIn (wf ro) 0 P .any ops.toArray Q fuel (listed.setIfInBounds i true)) a w := by
      intro hhi hlow hhigh hwp
      have hd : ops.drop i = o :: ops.drop (i + 1) := by
        rw [List.drop_eq_getElem_cons hin']
        congr 1
        have := List.getElem?_eq_getElem hin'
        rw [ho] at this; exact (Option.some.inj this).symm
      rw [hd] at hwp
      have hw2 : wpOpIn (wf ro) 0 P ops.toArray Q i (wpListIn (wf ro) 0 P ops.toArray Q (ops.drop (i + 1))) a w := by
        unfold wpOpIn
        simp only [List.getElem?_toArray, ho]
        simpa only [wpListIn] using hwp
      refine wpOpIn_mono (fun a' w' hw' => ih _ a' w' hsz' hcnt (.inr ⟨i + 1, by omega, by omega, fun j hj => ?_, fun j hj => ?_, hw'⟩)) hw2
      · rw [isL_set (by omega)]
        by_cases e : i = j
        · exact .inl e
        · exact .inr (hlow j (by omega))
      · rw [isL_set (by omega)]
        rintro (e | e)
        · omega
        · exact hhigh j (by omega) e
    rcases hJ with hI | ⟨p, hp, hpn, hlow, hhigh, hwp⟩
    · rcases Nat.lt_or_ge i h with hih | hih
      · -- an operation of the head
        have hok := hop i o hih ho
        simp only [okOp, Bool.and_eq_true, List.all_eq_true] at hok
        obtain ⟨⟨⟨⟨⟨hdk, hds⟩, hgd⟩, hndf⟩, hdep⟩, hrd⟩ := hok
        obtain ⟨s, d, hs, hd, hq⟩ := Obs.at_ hob i o (by rw [htake i hih]; exact ho)
        have hdd : deps.getD i [] = d := by simp [hd]
        rw [hdd] at hdep hrd hgd
        obtain ⟨t0, ht0⟩ := Option.isSome_iff_exists.1 hds
        obtain ⟨σ', hG, hσ'⟩ := depQ_use (val := fun t => a.tmps.getD t undef) d σ0 (hq w hI.ext) (fun p hp => by
          have h1 := hdep p hp
          obtain ⟨h2, h3⟩ := h1
          split at h3
          · rename_i oj hoj
            have hlj := hed' _ h2
            have hjh : p.2 < h := Nat.lt_of_not_le fun hh => hI.head _ hh hlj
            obtain ⟨s', hs'⟩ : ∃ s', sp[p.2]? = some s' := ⟨_, List.getElem?_eq_getElem (by omega)⟩
            exact ⟨s', hs', hI.vals p.2 oj s' p.1 hjh (by rw [← htake _ hjh]; exact hoj) hs' hlj (by simpa using h3)⟩
          · cases h3)
        have hopnd : ∀ x v, x ∈ o.op.operands → ev σ' x = some v → a.eval x = v := by
          intro x v hx hv
          cases x with
          | const u => simpa [Kx.ev, Act.eval] using hv
          | global g => simpa [Kx.ev, Act.eval] using hv
          | func f => simpa [Kx.ev, Act.eval] using hv
          | tmp t =>
            rcases hσ' t v hv with e | ⟨hv0, hnd'⟩
            · exact e.symm
            · have hmem : t ∈ tmpsOf o := by
                unfold tmpsOf
                rw [List.mem_filterMap]
                exact ⟨.tmp t, by simpa using hx, rfl⟩
              have hc := hrd t hmem
              simp only [Bool.or_eq_true] at hc
              rcases hc with hc | hc
              · obtain ⟨p, hp, hpt⟩ := List.any_eq_true.1 hc
                exact absurd (by simpa using hpt) (hnd' p hp)
              · show a.tmps.getD t undef = v
                rw [hI.old t (fun i' o' hi' ho' hl' hdst => ?_), ha0.slot t v hv0]
                have := List.all_eq_true.1 hc (o', i') (by rw [List.mem_zipIdx_iff_getElem?, htake i' hi']; exact ho')
                simp only [Bool.or_eq_true] at this
                rcases this with (h1 | h1) | h1
                · simp [hdst] at h1
                · have : i' = i := by simpa using h1
                  subst this; exact hunl hl'
                · exact hunl (hI.shut i' o' ho' hl' i h1)
        -- what the frame is behind it
        have next : ∀ v w', Ext w w' → Sp.ok s v w' → (isAl o = true → ∃ b, v = .pointer (some ⟨b, 0, none⟩) ∧ w.heap.size ≤ b ∧ b < w'.heap.size) → wpAnyIn (wf ro) 0 P .any ops.toArray Q fuel (listed.setIfInBounds i true) (a.put o.dst v) w' := by
          intro v w' he hv hfr
          have htN : t0 < N := by simpa [ht0, dOk, Nat.blt_eq] using hdk
          have hself : (a.put o.dst v).tmps.getD t0 undef = v := by simp [ht0, Act.put, hI.size, htN]
          have hinj : ∀ (j : Nat) (oj : Oper) (t : Tmp), i ≠ j → j < h → ops[j]? = some oj → oj.dst = some t → (a.put o.dst v).tmps.getD t undef = a.tmps.getD t undef := by
            intro j oj t e hj hoj hdj
            have hne : t0 ≠ t := by
              intro e2
              subst e2
              exact e (dst_inj (nodupB_spec hnd) (by rw [htake i hih]; exact ho) (by rw [htake j hj]; exact hoj) ht0 hdj)
            simp [ht0, Act.put, Array.getElem?_setIfInBounds_ne hne]
          refine ih _ _ _ hsz' hcnt (.inl ⟨by simpa [ht0, Act.put] using hI.size, by simpa [ht0, Act.put] using hI.defs, hI.ext.trans he, ?_, ?_, ?_, ?_, ?_, ?_⟩)
          · intro j oj sj t hj hoj hsj hlj hdj
            rw [isL_set (by omega)] at hlj
            have htN : t0 < N := by simpa [ht0, dOk, Nat.blt_eq] using hdk
            by_cases e : i = j
            · subst e
              rw [ho] at hoj; cases hoj
              rw [hs] at hsj; cases hsj
              rw [ht0] at hdj; cases hdj
              have : (a.put o.dst v).tmps.getD t0 undef = v := by simp [ht0, Act.put, hI.size, htN]
              rw [this]; exact hv
            · have hlj' := hlj.resolve_left e
              have hne : t0 ≠ t := by
                intro e2
                subst e2
                have hnd2 := nodupB_spec hnd
                have : ∀ (l : List Oper) (x y : Nat) (ox oy : Oper), (dsts l).Nodup → l[x]? = some ox → l[y]? = some oy → ox.dst = some t0 → oy.dst = some t0 → x = y := by
                  intro l
                  induction l with
                  | nil => intro x y ox oy _ hx; simp at hx
                  | cons c l ihl =>
                    intro x y ox oy hn hx hy dx dy
                    have hin : ∀ (z : Nat) (oz : Oper), l[z]? = some oz → oz.dst = some t0 → t0 ∈ dsts l := fun z oz hz dz => List.mem_filterMap.2 ⟨oz, List.mem_iff_getElem?.2 ⟨z, hz⟩, dz⟩
                    have hcons : ∀ oc : Oper, oc = c → oc.dst = some t0 → t0 ∉ dsts l ∧ (dsts l).Nodup := by
                      rintro oc rfl hc
                      have : (t0 :: dsts l).Nodup := by simpa [dsts, hc] using hn
                      exact List.nodup_cons.1 this
                    cases x with
                    | zero =>
                      simp at hx
                      cases y with
                      | zero => rfl
                      | succ y => exact absurd (hin y oy (by simpa using hy) dy) (hcons ox hx.symm dx).1
                    | succ x =>
                      cases y with
                      | zero => simp at hy; exact absurd (hin x ox (by simpa using hx) dx) (hcons oy hy.symm dy).1
                      | succ y =>
                        have hn' : (dsts l).Nodup := by
                          cases hc : c.dst with
                          | none => simpa [dsts, hc] using hn
                          | some u => have : (u :: dsts l).Nodup := by simpa [dsts, hc] using hn
                                      exact (List.nodup_cons.1 this).2
                        exact congrArg (· + 1) (ihl x y ox oy hn' (by simpa using hx) (by simpa using hy) dx dy)
                exact e (this (ops.take h) i j o oj hnd2 (by rw [htake i hih]; exact ho) (by rw [htake j hj]; exact hoj) ht0 hdj)
              have : (a.put o.dst v).tmps.getD t undef = a.tmps.getD t undef := by simp [ht0, Act.put, Array.getElem?_setIfInBounds_ne hne]
              rw [this]
              exact Sp.ok_ext (hI.vals j oj sj t hj hoj hsj hlj' hdj) he
          · intro t hno
            have hne : t0 ≠ t := fun e => hno i o hih ho ((isL_set (by omega)).2 (.inl rfl)) (e ▸ ht0)
            have : (a.put o.dst v).tmps.getD t undef = a.tmps.getD t undef := by simp [ht0, Act.put, Array.getElem?_setIfInBounds_ne hne]
            rw [this]
            exact hI.old t fun j oj hj hoj hlj => hno j oj hj hoj ((isL_set (by omega)).2 (.inr hlj))
          · intro j oj hoj hlj k hk
            rw [isL_set (by omega)] at hlj ⊢
            by_cases e : i = j
            · subst e
              rw [ho] at hoj; cases hoj
              exact .inr (hed' k hk)
            · exact .inr (hI.shut j oj hoj (hlj.resolve_left e) k hk)
          · intro j hj
            rw [isL_set (by omega)]
            rintro (e | e)
            · omega
            · exact hI.head j hj e
          · intro x y ox oy t t' hx hy hxy hox hoy hlx hly hax hay htx hty
            rw [isL_set (by omega)] at hlx hly
            by_cases ex : i = x
            · subst ex
              rw [ho] at hox; cases hox
              rw [ht0] at htx; cases htx
              obtain ⟨b, hb, hb1, hb2⟩ := hfr hax
              rw [hself, hinj y oy t' hxy hy hoy hty]
              obtain ⟨b', hb', hlt'⟩ := hI.low y oy t' hy hoy (hly.resolve_left hxy) hay hty
              rw [hb, hb']
              intro hh; injection hh with hh; injection hh with hh; injection hh with hh; omega
            · by_cases ey : i = y
              · subst ey
                rw [ho] at hoy; cases hoy
                rw [ht0] at hty; cases hty
                obtain ⟨b, hb, hb1, hb2⟩ := hfr hay
                rw [hself, hinj x ox t ex hx hox htx]
                obtain ⟨b', hb', hlt'⟩ := hI.low x ox t hx hox (hlx.resolve_left ex) hax htx
                rw [hb, hb']
                intro hh; injection hh with hh; injection hh with hh; injection hh with hh; omega
              · rw [hinj x ox t ex hx hox htx, hinj y oy t' ey hy hoy hty]
                exact hI.dis x y ox oy t t' hx hy hxy hox hoy (hlx.resolve_left ex) (hly.resolve_left ey) hax hay htx hty
          · intro x ox t hx hox hlx hax htx
            rw [isL_set (by omega)] at hlx
            by_cases ex : i = x
            · subst ex
              rw [ho] at hox; cases hox
              rw [ht0] at htx; cases htx
              obtain ⟨b, hb, hb1, hb2⟩ := hfr hax
              exact ⟨b, by rw [hself]; exact hb, hb2⟩
            · obtain ⟨b', hb', hlt'⟩ := hI.low x ox t hx hox (hlx.resolve_left ex) hax htx
              exact ⟨b', by rw [hinj x ox t ex hx hox htx]; exact hb', by have := he.size; omega⟩
        unfold wpOpIn
        simp only [List.getElem?_toArray, ho]
        -- run or passed over
        have hal' := hal.at_ i o s (by rw [htake i hih]; exact ho) hs
        by_cases hisa : isAl o = true
        · obtain ⟨ta, za, Ba, hopa, hga, hza, hsa, hBa⟩ := hal' hisa
          rw [if_pos (by simp [Region.wanted, hga])]
          subst hsa
          have hg : Gv P o σ' w (fun v w' => ∃ b, v = .pointer (some ⟨b, 0, none⟩) ∧ New w w' b ta za.cells) := by
            obtain ⟨d1, op1, ty1, pos1, af1, g1⟩ := o
            have hopa : op1 = .alloc ta := hopa
            subst hopa
            exact g_alloc hza
          refine hg.wp hopnd fun v w' hv => ?_
          obtain ⟨b, hb, hn⟩ := hv
          have h2 := hn.2.2.1
          have h3 := hn.2.2.2
          exact next v w' hn.1 (fun w'' e => ⟨b, hb, by have := hI.ext.size; omega, hn.2.1.ext e⟩) (fun _ => ⟨b, hb, by omega, by omega⟩)
        have run : Gv P o σ' w (fun v w' => Ext w w' ∧ Sp.ok s v w') → o.wpIn (wf ro) 0 P a w (wpAnyIn (wf ro) 0 P .any ops.toArray Q fuel (listed.setIfInBounds i true)) Q :=
          fun hg => hg.wp hopnd fun v w' hv => next v w' hv.1 hv.2 (fun h => absurd h hisa)
        cases hgu : o.guard with
        | none =>
          simp only [gOk, hgu] at hG
          rw [if_pos (by simp [Region.wanted, hgu])]
          exact run hG
        | some g =>
          obtain ⟨j, b⟩ := g
          simp only [hgu] at hgd
          obtain ⟨p, hp, hpj⟩ := List.any_eq_true.1 hgd
          have hpj' : p.2 = j := by simpa using hpj
          have h1 := hdep p hp
          obtain ⟨h2, h3⟩ := h1
          rw [hpj'] at h2 h3
          split at h3
          · rename_i oj hoj
            have hdst : oj.dst = some p.1 := by simpa using h3
            have hjh : j < h := by
              rcases Nat.lt_or_ge j h with hh | hh
              · exact hh
              · rw [List.getElem?_eq_none (by omega)] at hoj; cases hoj
            have hoj' : ops[j]? = some oj := by rw [← htake j hjh]; exact hoj
            simp only [gOk, hgu, hoj, Option.bind_some, hdst] at hG
            have hyv : ∀ v, look σ' p.1 = some v → a.tmps.getD p.1 undef = v := by
              intro v hv
              rcases hσ' p.1 v hv with e | ⟨_, hn⟩
              · exact e.symm
              · exact absurd rfl (hn p hp)
            have hpN : p.1 < a.tmps.size := by
              have := hop j oj hjh hoj'
              simp only [okOp, Bool.and_eq_true] at this
              have := this.1.1.1.1.1
              rw [hdst] at this
              rw [hI.size]; simpa [dOk, Nat.blt_eq] using this
            have hyd : ∀ v, look σ' p.1 = some v → yielded ops.toArray a.tmps j = match v with | .bool b => some b | _ => none := by
              intro v hv
              have e1 := hyv v hv
              have e2 : a.tmps[p.1]? = some v := by
                rw [Array.getElem?_eq_getElem hpN]
                simp [Array.getElem?_eq_getElem hpN] at e1
                exact congrArg some e1
              unfold yielded
              simp only [List.getElem?_toArray, hoj', Option.bind_some, hdst, e2]
              cases v <;> rfl
            have skip : (∃ v, look σ' p.1 = some v ∧ (match v with | .bool b => some b | _ => none) ≠ some b) → Sp.ok s undef w →
                (if Region.wanted o (yielded ops.toArray a.tmps) = true then o.wpIn (wf ro) 0 P a w (wpAnyIn (wf ro) 0 P .any ops.toArray Q fuel (listed.setIfInBounds i true)) Q
                  else (∀ f, o.about P w a.eval = some f → (wf ro).fn f) ∧ wpAnyIn (wf ro) 0 P .any ops.toArray Q fuel (listed.setIfInBounds i true) (a.put o.dst undef) w) := by
              rintro ⟨v, hv, hne⟩ hok
              rw [if_neg (by simp only [Region.wanted, hgu, hyd v hv]; simpa using hne)]
              exact ⟨fun _ _ => trivial, next undef w (Ext.refl w) hok (fun h => absurd h hisa)⟩
            split at hG
            · exact hG.elim
            · rename_i c hc
              cases hx : Bool.xor c b with
              | true =>
                rw [hx] at hG
                refine skip ⟨.bool c, hc, ?_⟩ hG
                intro e
                simp only [Option.some.injEq] at e
                subst e; simp at hx
              | false =>
                rw [hx] at hG
                have hcb : c = b := by cases c <;> cases b <;> simp_all
                rw [if_pos (by simp only [Region.wanted, hgu, hyd _ hc, hcb]; simp)]
                exact run hG
            · rename_i v hnb hv
              refine skip ⟨v, hv, ?_⟩ hG
              intro e
              cases v with
              | bool c => exact hnb c rfl
              | _ => cases e
          · cases h3
      · have hall' : ∀ j, j < i → isL listed j := fun j hj => htail listed hI.shut i o hih ho hed' j hj
        have e : i = h := by
          rcases Nat.lt_or_ge h i with hh | hh
          · exact absurd (hall' h hh) (hI.head h (Nat.le_refl _))
          · omega
        subst e
        exact tailStep (Nat.le_refl _) hall' hI.head (toB listed a w hI hall')
    · have hpi : p = i := by
        have h1 : p ≤ i := Nat.le_of_not_lt fun hh => hunl (hlow i hh)
        rcases Nat.lt_or_ge p i with hh | hh
        · exact absurd (htail listed (fun k ok hok hlk j hj => hlow j (by have := hback' k ok hok j hj; have : k < p := Nat.lt_of_not_le (fun h => hhigh k h hlk); omega)) i o (by omega) ho hed' p hh) (hhigh p (Nat.le_refl _))
        · omega
      subst hpi
      exact tailStep hp hlow hhigh hwp
end

/-- **a region that draws its order** -/
theorem WC.parF {Q : Pst} {id : Nat} (hm : P.follows .mixedOrders = true) (h : Nat) (sp : List Sp) (deps : List (List (Tmp × Nat))) (hchk : okPar ops N h deps = true)
    (hob : Obs P w0 σ0 (ops.take h) sp (ops.take h) sp deps) (hal : AlOk P w0 (ops.take h) sp)
    (hfin : ∀ w, Ext w0 w → finQ (fun σ w => Apart (ops.take h) σ → WL P ro N ds ops.toArray (fun σ w => Q .normal σ ds w) (ops.drop h) σ w) w (ops.take h) sp σ0) : WC P ro N Q (.region id ops.toArray true) σ0 ds w0 := by
  refine ⟨fun a ha => ?_⟩
  have main : (Code.region id ops.toArray true).wpIn (wf ro) 0 P (fun e a w => e = .normal ∧ ∃ σ', Agr N σ' ds a ∧ Q .normal σ' ds w) a w0 := by
    refine wpIn_region_draw fun t => ?_
    simp only [Region.schedule, hm, Bool.true_or, if_true]
    refine wpAnyIn_sound ops.toArray.size t _ a _ ?_
    have hfalse : ∀ i, ¬ isL (Array.replicate ops.toArray.size false) i := by
      intro i
      unfold isL
      by_cases hi : i < ops.length <;> simp [hi]
    refine parF_any hchk ha hob hal (fun w he => ?_) _ _ _ _ (by simp) (by simpa using cnt_le _ _) (.inl ⟨ha.size, ha.defs, (Below.refl _ w0).drew, fun i o s t _ _ _ hl => absurd hl (hfalse i), fun t _ => rfl, fun i o _ hl => absurd hl (hfalse i), fun i _ => hfalse i, fun i j oi oj t t' _ _ _ _ _ hl => absurd hl (hfalse i), fun i o t _ _ hl => absurd hl (hfalse i)⟩)
    have key : ∀ (os : List Oper) (ss : List Sp) (σ : Env), finQ (fun σ w => Apart (ops.take h) σ → WL P ro N ds ops.toArray (fun σ w => Q .normal σ ds w) (ops.drop h) σ w) w os ss σ →
        finQ (fun σ w => Apart (ops.take h) σ → ∀ a, Agr N σ ds a → wpListIn (wf ro) 0 P ops.toArray (fun e a w => e = .normal ∧ ∃ σ', Agr N σ' ds a ∧ Q .normal σ' ds w) (ops.drop h) a w) w os ss σ := by
      intro os
      induction os with
      | nil => intro ss σ hq; exact fun hA => WL.out (hq hA)
      | cons o os ih =>
        intro ss σ hq
        cases ss with
        | nil => exact fun hA => WL.out (hq hA)
        | cons s ss =>
          cases s with
          | inl v => exact ih ss _ hq
          | inr p => exact fun v hv => ih ss _ (hq v hv)
    exact key _ _ _ (hfin w he)
  refine wpIn_mono main ?_
  rintro e a' w' ⟨rfl, σ', hag, hk⟩
  exact ⟨σ', ds, hag, hk⟩
end
end Go.Kx

namespace Go.Proofs.YtccmemilofoamaaGreat
open Go Go.Kx Go.RowKit

theorem E_ref02_one : Ent Tryz.prog 144 := ent_of Tryz.func144 (by kernel_rfl) rfl
theorem ref02_one_c {S : Nat → Prop} {w : World} (up : Up S w) : CR Tryz.prog 144 #[] w (eZ.at S (zc 1)) := by
  refine enter Tryz.func144 rfl Tryz.ntmps144 rfl ?_
  refine .seq (.region (.alloc rfl zero_Z fun w1 b1 n1 => .nil ?_))
  obtain ⟨e1, k1, hb1, hs1⟩ := n1
  have hS : ¬ Sx S w.heap.size w1.heap.size b1 := Sx.no (by omega) (by omega)
  have up1 : Up (Sx S w.heap.size w1.heap.size) w1 := Sx.up up (Nat.le_refl _) e1.size
  refine .seq (.region (.call _ rfl E_ref01_From rfl (ref01_From_c up1 (by decide) (by decide)) fun v2 w2 e2 h2 => ?_))
  refine .storeA (E := eZ) ty_Z rfl rfl (k1.ext e2) rfl rfl h2 hS fun w5 k5 u5 h5 => .nil (.ret ?_)
  exact .cell Tryz.results144 rfl ty_Z rfl rfl k5 h5 ⟨u5.below (e1.trans e2) (by omega), h5.out⟩

theorem E_ref02_den : Ent Tryz.prog 111 := ent_of Tryz.func111 (by kernel_rfl) rfl
theorem ref02_den_c {S : Nat → Prop} {w : World} {v : Value} {q : QV} {L : Nat} (up : Up S w) (h : eQ.R S w v q) (hl : qok L q) (hL : L ≤ 1000000000) : CR Tryz.prog 111 #[v] w (eZ.at S (zc (pd q))) := by
  obtain ⟨s, t, rfl, hn, hd⟩ := eQ_parts h
  refine enter Tryz.func111 rfl Tryz.ntmps111 rfl ?_
  refine .seq (.region (.box rfl rfl fun w1 b1 n1 => .alloc rfl zero_Z fun w2 b2 n2 => .nil ?_))
  obtain ⟨e1, k1, hb1, hs1⟩ := n1
  obtain ⟨e2, k2, hb2, hs2⟩ := n2
  have x2 := e1.trans e2
  have k1 := k1.ext e2
  have hS : ¬ Sx S w.heap.size w2.heap.size b2 := Sx.no (by omega) (by omega)
  have up2 : Up (Sx S w.heap.size w2.heap.size) w2 := Sx.up up (Nat.le_refl _) x2.size
  have hd2 := (ER.par eZ hd w2.heap.size).ext x2
  refine .seq (.seq (.region (.fa fld_Q1 rfl rfl (.ldN [.bool q.den.neg, t] ty_Z rfl rfl k1 two_off ?_))))
  refine .call _ rfl E_ref01_Sign rfl (ref01_Sign_c up2 hd2 (Nat.le_trans hl.2 hL)) fun v3 w3 e3 h3 => ?_
  subst h3
  have hp : zval q.den ≠ 0 → pd q = (val q.den.w : Nat) := by
    intro h0
    have := zval_natAbs q.den
    unfold pd; rw [if_neg h0]; split <;> omega
  by_cases h0 : zval q.den = 0
  · refine .eqlT rfl rfl rfl (by rw [h0]; rfl) (.nil (.condT rfl (.seq (.region ?_))))
    refine .call _ rfl E_ref02_one rfl (ref02_one_c (up2.ext e3.size)) fun v4 w4 e4 h4 => ?_
    refine .storeA (E := eZ) ty_Z rfl rfl ((k2.ext e3).ext e4) rfl rfl h4 hS fun w5 k5 u5 h5 => .nil (.ret ?_)
    exact .cell Tryz.results111 rfl ty_Z rfl rfl k5 h5 ⟨u5.below ((x2.trans e3).trans e4) (by omega), by rw [show pd q = 1 by unfold pd; rw [if_pos h0]]; exact h5.out⟩
  · refine .eqlF rfl rfl rfl (fun h => h0 (Int.sign_eq_zero_iff_zero.1 h)) (.nil (.condF rfl (.skip (.seq (.region (.fa fld_Q1 rfl rfl (.ldN [.bool q.den.neg, t] ty_Z rfl rfl (k1.ext e3) two_off ?_)))))))
    refine .call _ rfl E_ref01_Abs rfl (ref01_Abs_c (up2.ext e3.size) (ER.ext eZ hd2 e3) (Nat.le_trans hl.2 hL)) fun v4 w4 e4 h4 => ?_
    refine .storeA (E := eZ) ty_Z rfl rfl ((k2.ext e3).ext e4) rfl rfl h4 hS fun w5 k5 u5 h5 => .nil (.ret ?_)
    exact .cell Tryz.results111 rfl ty_Z rfl rfl k5 h5 ⟨u5.below ((x2.trans e3).trans e4) (by omega), by rw [hp h0]; exact h5.out⟩

theorem E_ref02_num : Ent Tryz.prog 110 := ent_of Tryz.func110 (by kernel_rfl) rfl
theorem ref02_num_c {S : Nat → Prop} {w : World} {v : Value} {q : QV} {L : Nat} (up : Up S w) (h : eQ.R S w v q) (hl : qok L q) (hL : L ≤ 1000000000) : CR Tryz.prog 110 #[v] w (eZ.at S (zc (pn q))) := by
  obtain ⟨s, t, rfl, hn, hd⟩ := eQ_parts h
  refine enter Tryz.func110 rfl Tryz.ntmps110 rfl ?_
  refine .seq (.region (.box rfl rfl fun w1 b1 n1 => .alloc rfl zero_Z fun w2 b2 n2 => .nil ?_))
  obtain ⟨e1, k1, hb1, hs1⟩ := n1
  obtain ⟨e2, k2, hb2, hs2⟩ := n2
  have x2 := e1.trans e2
  have k1 := k1.ext e2
  have hS : ¬ Sx S w.heap.size w2.heap.size b2 := Sx.no (by omega) (by omega)
  have up2 : Up (Sx S w.heap.size w2.heap.size) w2 := Sx.up up (Nat.le_refl _) x2.size
  have hd2 := (ER.par eZ hd w2.heap.size).ext x2
  have hn2 := (ER.par eZ hn w2.heap.size).ext x2
  refine .seq (.seq (.region (.fa fld_Q1 rfl rfl (.ldN [.bool q.den.neg, t] ty_Z rfl rfl k1 two_off ?_))))
  refine .call _ rfl E_ref01_Sign rfl (ref01_Sign_c up2 hd2 (Nat.le_trans hl.2 hL)) fun v3 w3 e3 h3 => ?_
  subst h3
  by_cases h0 : zval q.den < 0
  · refine .lssT rfl rfl rfl (by rw [Int.sign_eq_neg_one_of_neg h0]; decide) (.nil (.condT rfl (.seq (.region (.fa fld_Q0 rfl rfl (.ldN [.bool q.num.neg, s] ty_Z rfl rfl (k1.ext e3) two_on ?_))))))
    refine .call _ rfl E_ref01_Neg rfl (ref01_Neg_c (up2.ext e3.size) (ER.ext eZ hn2 e3) (Nat.le_trans hl.1 hL)) fun v4 w4 e4 h4 => ?_
    refine .storeA (E := eZ) ty_Z rfl rfl ((k2.ext e3).ext e4) rfl rfl h4 hS fun w5 k5 u5 h5 => .nil (.ret ?_)
    exact .cell Tryz.results110 rfl ty_Z rfl rfl k5 h5 ⟨u5.below ((x2.trans e3).trans e4) (by omega), by rw [show pn q = -zval q.num by unfold pn; rw [if_pos h0]]; exact h5.out⟩
  · refine .lssF rfl rfl rfl (fun h => h0 (Int.sign_neg_iff.1 h)) (.nil (.condF rfl (.skip (.seq (.region (.fa fld_Q0 rfl rfl (.ldN [.bool q.num.neg, s] ty_Z rfl rfl (k1.ext e3) two_on ?_)))))))
    refine .call _ rfl E_ref01_Least rfl (ref01_Least_c (up2.ext e3.size) (ER.ext eZ hn2 e3) (Nat.le_trans hl.1 (by omega))) fun v4 w4 e4 h4 => ?_
    refine .storeA (E := eZ) ty_Z rfl rfl ((k2.ext e3).ext e4) rfl rfl h4 hS fun w5 k5 u5 h5 => .nil (.ret ?_)
    exact .cell Tryz.results110 rfl ty_Z rfl rfl k5 h5 ⟨u5.below ((x2.trans e3).trans e4) (by omega), by rw [show pn q = zval q.num by unfold pn; rw [if_neg h0]]; exact h5.out⟩

theorem E_ref02_over : Ent Tryz.prog 108 := ent_of Tryz.func108 (by kernel_rfl) rfl
theorem ref02_over_c {S : Nat → Prop} {w : World} {va vb : Value} {a b : ZV} {L : Nat} (up : Up S w) (ha : eZ.R S w va a) (hb : eZ.R S w vb b) (hla : a.w.length ≤ L) (hlb : b.w.length ≤ L) (hL : L ≤ 1000000000) (hb0 : 0 < zval b) : CR Tryz.prog 108 #[va, vb] w (eQ.at S (qc (Rat.divInt (zval a) (zval b)))) := by
  have hda := eZ_dig ha
  have hdb := eZ_dig hb
  have hqc := qc_divInt (n := zval a) hb0
  have hga := zval_natAbs a
  have hgb := zval_natAbs b
  have hBp : 0 < val b.w := by omega
  have hla1 := zval_lt hda hla
  have hlb1 := zval_lt hdb hlb
  rw [hga] at hla1
  rw [hgb] at hlb1
  rw [hga, hgb] at hqc
  have hg1 : Nat.gcd (val a.w) (val b.w) ≤ val b.w := Nat.gcd_le_right _ hBp
  have hg0 : 0 < Nat.gcd (val a.w) (val b.w) := Nat.gcd_pos_of_pos_right _ hBp
  generalize hgg : Nat.gcd (val a.w) (val b.w) = g at *
  obtain ⟨s, rfl, hs⟩ := ha
  obtain ⟨t, rfl, ht⟩ := hb
  have ha : eZ.R S w (.agg #[.bool a.neg, s]) a := ⟨s, rfl, hs⟩
  have hb : eZ.R S w (.agg #[.bool b.neg, t]) b := ⟨t, rfl, ht⟩
  refine enter Tryz.func108 rfl Tryz.ntmps108 rfl ?_
  refine .seq (.region (.box rfl rfl fun w1 b2 n1 => .box rfl rfl fun w2 b3 n2 => .alloc rfl zero_Q fun w3 b4 n3 => .nil ?_))
  obtain ⟨e1, k2, hb2, hs1⟩ := n1
  obtain ⟨e2, k3, hb3, hs2⟩ := n2
  obtain ⟨e3, k4, hb4, hs3⟩ := n3
  have x3 := (e1.trans e2).trans e3
  have k2 := (k2.ext e2).ext e3
  have k3 := k3.ext e3
  have hS4 : ¬ Sx S w.heap.size w3.heap.size b4 := Sx.no (by omega) (by omega)
  have up3 : Up (Sx S w.heap.size w3.heap.size) w3 := Sx.up up (Nat.le_refl _) x3.size
  have ha3 := (ER.par eZ ha w3.heap.size).ext x3
  have hb3' := (ER.par eZ hb w3.heap.size).ext x3
  have hout : ∀ {W : World} {v : Value} {z : QV}, eQ.R (Sx S w.heap.size w3.heap.size) W v z → eQ.R S W v z := fun h => h.out
  generalize hT : Sx S w.heap.size w3.heap.size = T at *
  refine .seq (.region (.ldA ty_Z rfl rfl k2 rfl (.ldA ty_Z rfl rfl k3 rfl ?_)))
  refine .call _ rfl E_ref01_Gcd rfl (ref01_Gcd_c up3 ha3 hb3' (by omega) (by omega)) fun v4 w4 e4 h4 => ?_
  rw [hgg] at h4
  obtain ⟨s4, rfl, hs4⟩ := h4
  have h4 : eZ.R T w4 (.agg #[.bool (zc (g : Nat)).neg, s4]) (zc (g : Nat)) := ⟨s4, rfl, hs4⟩
  refine .alloc rfl zero_Z fun w5 b5 n5 => ?_
  obtain ⟨e5, k5, hb5, hs5⟩ := n5
  refine .storeA (E := eZ) ty_Z rfl rfl k5 rfl rfl (ER.ext eZ (ER.lt eZ h4) e5) (fun h => by have := h.2; omega) fun w6 k5 u6 _ => .nil ?_
  have e46 : Ext w4 w6 := u6.below e5 (by omega)
  have e36 := e4.trans e46
  have up6 := up3.ext e36.size
  have lg : (zc (g : Nat)).w.length ≤ 1000000000 := Nat.le_trans (zc_len (L := L) (by rw [Int.natAbs_natCast]; exact Nat.lt_of_le_of_lt hg1 hlb1)) hL
  have hgz : zval (zc ((g : Nat) : Int)) = (g : Int) := zval_zc _
  -- the two quotients
  refine .seq (.region (.ldA ty_Z rfl rfl (k2.ext e36) rfl (.ldA ty_Z rfl rfl k5 rfl ?_)))
  refine .call _ rfl E_ref01_Div rfl (ref01_Div_c up6 (ER.ext eZ ha3 e36) (ER.ext eZ h4 e46) (by omega) lg (by rw [hgz]; omega)) fun v7 w7 e7 h7 => ?_
  obtain ⟨vq, vr, _, rfl, hq, hr, rfl⟩ := h7
  rw [hgz] at hq hr
  obtain ⟨sq, rfl, hsq⟩ := hq
  have hq : eZ.R T w7 (.agg #[.bool (zc (zval a / (g : Nat))).neg, sq]) (zc (zval a / (g : Nat))) := ⟨sq, rfl, hsq⟩
  refine .mv rfl rfl (.ext rfl rfl rfl (.ext rfl rfl rfl (.ext rfl rfl rfl (.alloc rfl zero_Z fun w8 b6 n8 => .alloc rfl zero_Z fun w9 b7 n9 => ?_))))
  obtain ⟨e8, k6, hb6, hs8⟩ := n8
  obtain ⟨e9, k7, hb7, hs9⟩ := n9
  have e79 := e8.trans e9
  refine .storeA (E := eZ) ty_Z rfl rfl (k6.ext e9) rfl rfl (ER.ext eZ (ER.lt eZ hq) e79) (fun h => by have := h.2; omega) fun w10 k6 u10 _ => ?_
  have e710 : Ext w7 w10 := u10.below e79 (by omega)
  refine .storeA (E := eZ) ty_Z rfl rfl (k7.upd u10 (by omega)) rfl rfl (ER.ext eZ (ER.lt eZ hr) e710) (fun h => by have := h.2; omega) fun w11 k7 u11 _ => .asg rfl rfl (.nil ?_)
  have e711 : Ext w7 w11 := u11.below e710 (by omega)
  have k6 := k6.upd u11 (by omega)
  have e611 := e7.trans e711
  have up11 := up6.ext e611.size
  have k5 := k5.ext e611
  have e311 := e36.trans e611
  refine .seq (.region (.ldA ty_Z rfl rfl (k3.ext e311) rfl (.ldA ty_Z rfl rfl k5 rfl ?_)))
  refine .call _ rfl E_ref01_Div rfl (ref01_Div_c up11 (ER.ext eZ hb3' e311) (ER.ext eZ (ER.ext eZ h4 e46) e611) (by omega) lg (by rw [hgz]; omega)) fun v12 w12 e12 h12 => ?_
  obtain ⟨vd, ve, _, rfl, hd, he, rfl⟩ := h12
  rw [hgz] at hd he
  obtain ⟨sd, rfl, hsd⟩ := hd
  have hd : eZ.R T w12 (.agg #[.bool (zc (zval b / (g : Nat))).neg, sd]) (zc (zval b / (g : Nat))) := ⟨sd, rfl, hsd⟩
  refine .mv rfl rfl (.ext rfl rfl rfl (.ext rfl rfl rfl (.ext rfl rfl rfl (.alloc rfl zero_Z fun w13 b9 n13 => .alloc rfl zero_Z fun w14 b10 n14 => ?_))))
  obtain ⟨e13, k9, hb9, hs13⟩ := n13
  obtain ⟨e14, k10, hb10, hs14⟩ := n14
  have e1214 := e13.trans e14
  refine .storeA (E := eZ) ty_Z rfl rfl (k9.ext e14) rfl rfl (ER.ext eZ (ER.lt eZ hd) e1214) (fun h => by have := h.2; omega) fun w15 k9 u15 _ => ?_
  have e1215 : Ext w12 w15 := u15.below e1214 (by omega)
  refine .storeA (E := eZ) ty_Z rfl rfl (k10.upd u15 (by omega)) rfl rfl (ER.ext eZ (ER.lt eZ he) e1215) (fun h => by have := h.2; omega) fun w16 k10 u16 _ => .asg rfl rfl (.nil ?_)
  have e1216 : Ext w12 w16 := u16.below e1215 (by omega)
  have k9 := k9.upd u16 (by omega)
  have e1116 := e12.trans e1216
  have k6 := k6.ext e1116
  have up16 := up11.ext e1116.size
  have hd := ER.ext eZ hd e1216
  have hq := ER.ext eZ hq (e711.trans e1116)
  have hdl : (zc (zval b / (g : Nat))).w.length ≤ 1000000000 := Nat.le_trans (zc_len (L := L) (Nat.lt_of_le_of_lt (Int.natAbs_ediv_le_natAbs _ _) (by rw [hgb]; exact hlb1))) hL
  have e316 := e311.trans e1116
  have k4 := k4.ext e316
  refine .seq (.seq ?_)
  refine .par follows 4 [.inl (.agg #[.bool (zc (zval b / (g : Nat))).neg, sd]), .inr (eZ.at T (zc 1)), .inl (.int .i64 (cmpI (zval (zc (zval b / (g : Nat)))) (zval (zc 1)))), .inl (.bool (cmpI (zval (zc (zval b / (g : Nat)))) (zval (zc 1)) == 0))] [[], [], [(29, 0), (30, 1)], [(31, 2)]] (by kernel_rfl) ⟨
    fun w e => (v_ldA ty_Z rfl (k9.ext e) rfl).ob, fun w e => (g_call _ E_ref02_one rfl (ref02_one_c (up16.ext e.size))).ob (st_at _ _ _),
    fun w e x hx => g_call _ E_ref01_Cmp rfl (ref01_Cmp_c (up16.ext e.size) (ER.ext eZ hd e) hx hdl (Nat.le_trans (zc_len (L := 1) (by decide)) (by omega))), fun w e => (v_eql rfl rfl).ob, trivial⟩ ?_
  intro w17 e17 x1 hx1
  rw [zval_zc, zval_zc]
  have k4 := k4.ext e17
  have k6 := k6.ext e17
  have k9 := k9.ext e17
  obtain ⟨sq', he1, hsq'⟩ := ER.ext eZ hq e17
  obtain ⟨sd', he2, hsd'⟩ := ER.ext eZ hd e17
  injection he1 with he1
  injection he2 with he2
  simp at he1 he2
  subst he1
  subst he2
  have hxx := x3.trans (e316.trans e17)
  by_cases h1 : zval b / (g : Nat) = 1
  · rw [show (cmpI (zval b / (g : Nat)) 1 == 0) = true by rw [h1]; decide]
    rw [if_pos h1] at hqc
    have hfin : eQ.R T w17 (.agg #[.bool (zc (zval a / (g : Nat))).neg, sq, .bool false, .slice none 0 0]) (qc (Rat.divInt (zval a) (zval b))) := by
      rw [hqc]; exact ⟨sq, .slice none 0 0, rfl, hsq', RL.nil⟩
    refine .nil (.condT rfl (.seq (.region (.ldA ty_Z rfl rfl k6 rfl (.bld [(0, .agg #[.bool (zc (zval a / (g : Nat))).neg, sq])] rfl rfl bld_Q1 ?_)))))
    refine .storeA (E := eQ) ty_Q rfl rfl k4 rfl rfl hfin hS4 fun w18 k18 u18 h18 => .nil (.ret ?_)
    exact .cell Tryz.results108 rfl ty_Q rfl rfl k18 h18 ⟨u18.below hxx (by omega), hout h18⟩
  · rw [show (cmpI (zval b / (g : Nat)) 1 == 0) = false by unfold cmpI; split <;> (try split) <;> first | rfl | omega]
    rw [if_neg h1] at hqc
    have hfin : eQ.R T w17 (.agg #[.bool (zc (zval a / (g : Nat))).neg, sq, .bool (zc (zval b / (g : Nat))).neg, sd]) (qc (Rat.divInt (zval a) (zval b))) := by
      rw [hqc]; exact ⟨sq, sd, rfl, hsq', hsd'⟩
    refine .nil (.condF rfl (.skip (.seq (.region (.ldA ty_Z rfl rfl k6 rfl (.ldA ty_Z rfl rfl k9 rfl (.bld [(0, .agg #[.bool (zc (zval a / (g : Nat))).neg, sq]), (1, .agg #[.bool (zc (zval b / (g : Nat))).neg, sd])] rfl rfl bld_Q2 ?_)))))))
    refine .storeA (E := eQ) ty_Q rfl rfl k4 rfl rfl hfin hS4 fun w18 k18 u18 h18 => .nil (.ret ?_)
    exact .cell Tryz.results108 rfl ty_Q rfl rfl k18 h18 ⟨u18.below hxx (by omega), hout h18⟩
end Go.Proofs.YtccmemilofoamaaGreat

namespace Go.Kx
theorem pow_mulz {L m n : Nat} {x y : Int} (h1 : x.natAbs < L ^ m) (h2 : y.natAbs < L ^ n) : (x * y).natAbs < L ^ (m + n) := by
  rw [Int.natAbs_mul, Nat.pow_add]; exact Nat.mul_lt_mul'' h1 h2
theorem pow_addz {m : Nat} {x y : Int} (h1 : x.natAbs < 4294967296 ^ m) (h2 : y.natAbs < 4294967296 ^ m) : (x + y).natAbs < 4294967296 ^ (m + 1) := by
  have := Int.natAbs_add_le x y
  rw [Nat.pow_succ]; omega
end Go.Kx
namespace Go.Proofs.YtccmemilofoamaaGreat
open Go Go.Kx Go.RowKit

theorem zl {n : Int} {L K : Nat} (h : n.natAbs < 4294967296 ^ L) (hL : L ≤ K) : (zc n).w.length ≤ K := Nat.le_trans (zc_len h) hL
theorem eQ_digs {S : Nat → Prop} {w : World} {v : Value} {q : QV} (h : eQ.R S w v q) : dig q.num.w ∧ dig q.den.w := by
  obtain ⟨s, t, _, h1, h2⟩ := h
  exact ⟨eW_lt h1, eW_lt h2⟩

theorem E_ref02_Least : Ent Tryz.prog 106 := ent_of Tryz.func106 (by kernel_rfl) rfl
theorem ref02_Least_c {S : Nat → Prop} {w : World} {v : Value} {q : QV} {L : Nat} (up : Up S w) (h : eQ.R S w v q) (hl : qok L q) (h1 : 1 ≤ L) (hL : L ≤ 1000000000) : CR Tryz.prog 106 #[v] w (eQ.at S (qc (qval q))) := by
  obtain ⟨hd1, hd2⟩ := eQ_digs h
  have hln := pn_lt hd1 hl
  have hld := pd_lt hd2 hl h1
  have hpp := pd_pos q
  obtain ⟨s, t, rfl, hs, ht⟩ := h
  have h : eQ.R S w (.agg #[.bool q.num.neg, s, .bool q.den.neg, t]) q := ⟨s, t, rfl, hs, ht⟩
  refine enter Tryz.func106 rfl Tryz.ntmps106 rfl ?_
  refine .seq (.region (.box rfl rfl fun w1 b1 n1 => .alloc rfl zero_Q fun w2 b2 n2 => .nil ?_))
  obtain ⟨e1, k1, hb1, hs1⟩ := n1
  obtain ⟨e2, k2, hb2, hs2⟩ := n2
  have x2 := e1.trans e2
  have k1 := k1.ext e2
  have hS : ¬ Sx S w.heap.size w2.heap.size b2 := Sx.no (by omega) (by omega)
  have up2 : Up (Sx S w.heap.size w2.heap.size) w2 := Sx.up up (Nat.le_refl _) x2.size
  have h2 := (ER.par eQ h w2.heap.size).ext x2
  have hout : ∀ {W : World} {v : Value} {z : QV}, eQ.R (Sx S w.heap.size w2.heap.size) W v z → eQ.R S W v z := fun h => h.out
  generalize hT : Sx S w.heap.size w2.heap.size = T at *
  refine .seq ?_
  refine .par follows 5 [.inl _, .inr (eZ.at T (zc (pn q))), .inl _, .inr (eZ.at T (zc (pd q))), .inr (eQ.at T (qc (Rat.divInt (zval (zc (pn q))) (zval (zc (pd q))))))] [[], [(3, 0)], [], [(5, 2)], [(4, 1), (6, 3)]] (by kernel_rfl) ⟨
    fun w e => (v_ldA ty_Q rfl (k1.ext e) rfl).ob, fun w e => (g_call _ E_ref02_num rfl (ref02_num_c (up2.ext e.size) (ER.ext eQ h2 e) hl hL)).ob (st_at _ _ _),
    fun w e => (v_ldA ty_Q rfl (k1.ext e) rfl).ob, fun w e => (g_call _ E_ref02_den rfl (ref02_den_c (up2.ext e.size) (ER.ext eQ h2 e) hl hL)).ob (st_at _ _ _),
    fun w e x hx y hy => (g_call _ E_ref02_over rfl (ref02_over_c (up2.ext e.size) hx hy (zl hln (Nat.le_refl _)) (zl hld (Nat.le_refl _)) hL (by rw [zval_zc]; exact hpp))).ob (st_at _ _ _), trivial⟩ ?_
  intro w3 e3 x hx y hy z hz
  rw [zval_zc, zval_zc] at hz
  refine .storeA (E := eQ) ty_Q rfl rfl (k2.ext e3) rfl rfl hz hS fun w4 k4 u4 h4 => .nil (.ret ?_)
  exact .cell Tryz.results106 rfl ty_Q rfl rfl k4 h4 ⟨u4.below (x2.trans e3) (by omega), hout h4⟩

theorem E_ref02_Neg : Ent Tryz.prog 60 := ent_of Tryz.func60 (by kernel_rfl) rfl
theorem ref02_Neg_c {S : Nat → Prop} {w : World} {v : Value} {q : QV} {L : Nat} (up : Up S w) (h : eQ.R S w v q) (hl : qok L q) (h1 : 1 ≤ L) (hL : L ≤ 1000000000) : CR Tryz.prog 60 #[v] w (eQ.at S (qc (-qval q))) := by
  obtain ⟨hd1, hd2⟩ := eQ_digs h
  have hln := pn_lt hd1 hl
  have hld := pd_lt hd2 hl h1
  have hpp := pd_pos q
  obtain ⟨s, t, rfl, hs, ht⟩ := h
  have h : eQ.R S w (.agg #[.bool q.num.neg, s, .bool q.den.neg, t]) q := ⟨s, t, rfl, hs, ht⟩
  refine enter Tryz.func60 rfl Tryz.ntmps60 rfl ?_
  refine .seq (.region (.box rfl rfl fun w1 b1 n1 => .alloc rfl zero_Q fun w2 b2 n2 => .nil ?_))
  obtain ⟨e1, k1, hb1, hs1⟩ := n1
  obtain ⟨e2, k2, hb2, hs2⟩ := n2
  have x2 := e1.trans e2
  have k1 := k1.ext e2
  have hS : ¬ Sx S w.heap.size w2.heap.size b2 := Sx.no (by omega) (by omega)
  have up2 : Up (Sx S w.heap.size w2.heap.size) w2 := Sx.up up (Nat.le_refl _) x2.size
  have h2 := (ER.par eQ h w2.heap.size).ext x2
  have hout : ∀ {W : World} {v : Value} {z : QV}, eQ.R (Sx S w.heap.size w2.heap.size) W v z → eQ.R S W v z := fun h => h.out
  generalize hT : Sx S w.heap.size w2.heap.size = T at *
  refine .seq ?_
  refine .par follows 6 [.inl _, .inr (eZ.at T (zc (pn q))), .inr (eZ.at T (zc (-zval (zc (pn q))))), .inl _, .inr (eZ.at T (zc (pd q))), .inr (eQ.at T (qc (Rat.divInt (zval (zc (-zval (zc (pn q))))) (zval (zc (pd q))))))] [[], [(3, 0)], [(4, 1)], [], [(6, 3)], [(5, 2), (7, 4)]] (by kernel_rfl) ⟨
    fun w e => (v_ldA ty_Q rfl (k1.ext e) rfl).ob, fun w e => (g_call _ E_ref02_num rfl (ref02_num_c (up2.ext e.size) (ER.ext eQ h2 e) hl hL)).ob (st_at _ _ _),
    fun w e x hx => (g_call _ E_ref01_Neg rfl (ref01_Neg_c (up2.ext e.size) hx (zl hln hL))).ob (st_at _ _ _),
    fun w e => (v_ldA ty_Q rfl (k1.ext e) rfl).ob, fun w e => (g_call _ E_ref02_den rfl (ref02_den_c (up2.ext e.size) (ER.ext eQ h2 e) hl hL)).ob (st_at _ _ _),
    fun w e x hx y hy => (g_call _ E_ref02_over rfl (ref02_over_c (up2.ext e.size) hx hy (zl (by rw [zval_zc, Int.natAbs_neg]; exact hln) (Nat.le_refl _)) (zl hld (Nat.le_refl _)) hL (by rw [zval_zc]; exact hpp))).ob (st_at _ _ _), trivial⟩ ?_
  intro w3 e3 x hx y hy z hz u hu
  rw [zval_zc, zval_zc, zval_zc, ← Rat.neg_divInt] at hu
  refine .storeA (E := eQ) ty_Q rfl rfl (k2.ext e3) rfl rfl hu hS fun w4 k4 u4 h4 => .nil (.ret ?_)
  exact .cell Tryz.results60 rfl ty_Q rfl rfl k4 h4 ⟨u4.below (x2.trans e3) (by omega), hout h4⟩

theorem E_ref02_Sign : Ent Tryz.prog 74 := ent_of Tryz.func74 (by kernel_rfl) rfl
theorem ref02_Sign_c {S : Nat → Prop} {w : World} {v : Value} {q : QV} {L : Nat} (up : Up S w) (h : eQ.R S w v q) (hl : qok L q) (hL : L ≤ 1000000000) : CR Tryz.prog 74 #[v] w (Is (.int .i64 (pn q).sign)) := by
  obtain ⟨hd1, hd2⟩ := eQ_digs h
  have hln := pn_lt hd1 hl
  obtain ⟨s, t, rfl, hs, ht⟩ := h
  have h : eQ.R S w (.agg #[.bool q.num.neg, s, .bool q.den.neg, t]) q := ⟨s, t, rfl, hs, ht⟩
  refine enter Tryz.func74 rfl Tryz.ntmps74 rfl ?_
  refine .seq (.region (.box rfl rfl fun w1 b1 n1 => .asg rfl rfl (.nil ?_)))
  obtain ⟨e1, k1, hb1, hs1⟩ := n1
  refine .seq (.region (.ldA ty_Q rfl rfl k1 rfl ?_))
  refine .call _ rfl E_ref02_num rfl (ref02_num_c (up.ext e1.size) (ER.ext eQ h e1) hl hL) fun v2 w2 e2 h2 => ?_
  refine .call _ rfl E_ref01_Sign rfl (ref01_Sign_c ((up.ext e1.size).ext e2.size) h2 (zl hln hL)) fun v3 w3 e3 h3 => ?_
  subst h3
  refine .asg rfl rfl (.nil (.ret ?_))
  exact .plain [_] Tryz.results74 ⟨rfl, trivial⟩ ⟨(e1.trans e2).trans e3, isI (by rw [zval_zc])⟩

theorem E_ref02_Mul : Ent Tryz.prog 75 := ent_of Tryz.func75 (by kernel_rfl) rfl
theorem ref02_Mul_c {S : Nat → Prop} {w : World} {va vb : Value} {a b : QV} {L : Nat} (up : Up S w) (ha : eQ.R S w va a) (hb : eQ.R S w vb b) (hla : qok L a) (hlb : qok L b) (h1 : 1 ≤ L) (hL : L ≤ 400000000) : CR Tryz.prog 75 #[va, vb] w (eQ.at S (qc (qval a * qval b))) := by
  obtain ⟨da1, da2⟩ := eQ_digs ha
  obtain ⟨db1, db2⟩ := eQ_digs hb
  have lna := pn_lt da1 hla
  have lda := pd_lt da2 hla h1
  have lnb := pn_lt db1 hlb
  have ldb := pd_lt db2 hlb h1
  have ppa := pd_pos a
  have ppb := pd_pos b
  have hpp := Int.mul_pos ppa ppb
  have hL9 : L ≤ 1000000000 := by omega
  obtain ⟨s, t, rfl, hs, ht⟩ := ha
  have ha : eQ.R S w (.agg #[.bool a.num.neg, s, .bool a.den.neg, t]) a := ⟨s, t, rfl, hs, ht⟩
  obtain ⟨s', t', rfl, hs', ht'⟩ := hb
  have hb : eQ.R S w (.agg #[.bool b.num.neg, s', .bool b.den.neg, t']) b := ⟨s', t', rfl, hs', ht'⟩
  refine enter Tryz.func75 rfl Tryz.ntmps75 rfl ?_
  refine .seq (.region (.box rfl rfl fun w1 b2 n1 => .box rfl rfl fun w2 b3 n2 => .alloc rfl zero_Q fun w3 b4 n3 => .nil ?_))
  obtain ⟨e1, k2, hb2, hs1⟩ := n1
  obtain ⟨e2, k3, hb3, hs2⟩ := n2
  obtain ⟨e3, k4, hb4, hs3⟩ := n3
  have x3 := (e1.trans e2).trans e3
  have k2 := (k2.ext e2).ext e3
  have k3 := k3.ext e3
  have hS4 : ¬ Sx S w.heap.size w3.heap.size b4 := Sx.no (by omega) (by omega)
  have up3 : Up (Sx S w.heap.size w3.heap.size) w3 := Sx.up up (Nat.le_refl _) x3.size
  have ha3 := (ER.par eQ ha w3.heap.size).ext x3
  have hb3' := (ER.par eQ hb w3.heap.size).ext x3
  have hout : ∀ {W : World} {v : Value} {z : QV}, eQ.R (Sx S w.heap.size w3.heap.size) W v z → eQ.R S W v z := fun h => h.out
  generalize hT : Sx S w.heap.size w3.heap.size = T at *
  refine .seq ?_
  refine .par follows 11 [.inl _, .inr (eZ.at T (zc (pn a))), .inl _, .inr (eZ.at T (zc (pn b))), .inr (eZ.at T (zc (zval (zc (pn a)) * zval (zc (pn b))))), .inl _, .inr (eZ.at T (zc (pd a))), .inl _, .inr (eZ.at T (zc (pd b))), .inr (eZ.at T (zc (zval (zc (pd a)) * zval (zc (pd b))))),
      .inr (eQ.at T (qc (Rat.divInt (zval (zc (zval (zc (pn a)) * zval (zc (pn b))))) (zval (zc (zval (zc (pd a)) * zval (zc (pd b))))))))]
      [[], [(5, 0)], [], [(7, 2)], [(6, 1), (8, 3)], [], [(10, 5)], [], [(12, 7)], [(11, 6), (13, 8)], [(9, 4), (14, 9)]] (by kernel_rfl) ⟨
    fun w e => (v_ldA ty_Q rfl (k2.ext e) rfl).ob, fun w e => (g_call _ E_ref02_num rfl (ref02_num_c (up3.ext e.size) (ER.ext eQ ha3 e) hla hL9)).ob (st_at _ _ _),
    fun w e => (v_ldA ty_Q rfl (k3.ext e) rfl).ob, fun w e => (g_call _ E_ref02_num rfl (ref02_num_c (up3.ext e.size) (ER.ext eQ hb3' e) hlb hL9)).ob (st_at _ _ _),
    fun w e x hx y hy => (g_call _ E_ref01_Mul rfl (ref01_Mul_c (up3.ext e.size) hx hy (zl lna hL9) (zl lnb hL9))).ob (st_at _ _ _),
    fun w e => (v_ldA ty_Q rfl (k2.ext e) rfl).ob, fun w e => (g_call _ E_ref02_den rfl (ref02_den_c (up3.ext e.size) (ER.ext eQ ha3 e) hla hL9)).ob (st_at _ _ _),
    fun w e => (v_ldA ty_Q rfl (k3.ext e) rfl).ob, fun w e => (g_call _ E_ref02_den rfl (ref02_den_c (up3.ext e.size) (ER.ext eQ hb3' e) hlb hL9)).ob (st_at _ _ _),
    fun w e x hx y hy => (g_call _ E_ref01_Mul rfl (ref01_Mul_c (up3.ext e.size) hx hy (zl lda hL9) (zl ldb hL9))).ob (st_at _ _ _),
    fun w e x hx y hy => (g_call _ E_ref02_over rfl (ref02_over_c (up3.ext e.size) hx hy (zl (by rw [zval_zc, zval_zc]; exact pow_mulz lna lnb) (Nat.le_refl _)) (zl (by rw [zval_zc, zval_zc]; exact pow_mulz lda ldb) (Nat.le_refl _)) (by omega) (by rw [zval_zc, zval_zc, zval_zc]; exact hpp))).ob (st_at _ _ _), trivial⟩ ?_
  intro w4 e4 x1 _ x2 _ x3' _ x4 _ x5 _ x6 _ z hz
  rw [zval_zc, zval_zc, zval_zc, zval_zc, zval_zc, zval_zc, ← Rat.divInt_mul_divInt] at hz
  refine .storeA (E := eQ) ty_Q rfl rfl (k4.ext e4) rfl rfl hz hS4 fun w5 k5 u5 h5 => .nil (.ret ?_)
  exact .cell Tryz.results75 rfl ty_Q rfl rfl k5 h5 ⟨u5.below (x3.trans e4) (by omega), hout h5⟩

theorem E_ref02_Add : Ent Tryz.prog 76 := ent_of Tryz.func76 (by kernel_rfl) rfl
theorem ref02_Add_c {S : Nat → Prop} {w : World} {va vb : Value} {a b : QV} {L : Nat} (up : Up S w) (ha : eQ.R S w va a) (hb : eQ.R S w vb b) (hla : qok L a) (hlb : qok L b) (h1 : 1 ≤ L) (hL : L ≤ 400000000) : CR Tryz.prog 76 #[va, vb] w (eQ.at S (qc (qval a + qval b))) := by
  obtain ⟨da1, da2⟩ := eQ_digs ha
  obtain ⟨db1, db2⟩ := eQ_digs hb
  have lna := pn_lt da1 hla
  have lda := pd_lt da2 hla h1
  have lnb := pn_lt db1 hlb
  have ldb := pd_lt db2 hlb h1
  have ppa := pd_pos a
  have ppb := pd_pos b
  have hpp := Int.mul_pos ppa ppb
  have hL9 : L ≤ 1000000000 := by omega
  obtain ⟨s, t, rfl, hs, ht⟩ := ha
  have ha : eQ.R S w (.agg #[.bool a.num.neg, s, .bool a.den.neg, t]) a := ⟨s, t, rfl, hs, ht⟩
  obtain ⟨s', t', rfl, hs', ht'⟩ := hb
  have hb : eQ.R S w (.agg #[.bool b.num.neg, s', .bool b.den.neg, t']) b := ⟨s', t', rfl, hs', ht'⟩
  refine enter Tryz.func76 rfl Tryz.ntmps76 rfl ?_
  refine .seq (.region (.box rfl rfl fun w1 b2 n1 => .box rfl rfl fun w2 b3 n2 => .alloc rfl zero_Q fun w3 b4 n3 => .nil ?_))
  obtain ⟨e1, k2, hb2, hs1⟩ := n1
  obtain ⟨e2, k3, hb3, hs2⟩ := n2
  obtain ⟨e3, k4, hb4, hs3⟩ := n3
  have x3 := (e1.trans e2).trans e3
  have k2 := (k2.ext e2).ext e3
  have k3 := k3.ext e3
  have hS4 : ¬ Sx S w.heap.size w3.heap.size b4 := Sx.no (by omega) (by omega)
  have up3 : Up (Sx S w.heap.size w3.heap.size) w3 := Sx.up up (Nat.le_refl _) x3.size
  have ha3 := (ER.par eQ ha w3.heap.size).ext x3
  have hb3' := (ER.par eQ hb w3.heap.size).ext x3
  have hout : ∀ {W : World} {v : Value} {z : QV}, eQ.R (Sx S w.heap.size w3.heap.size) W v z → eQ.R S W v z := fun h => h.out
  generalize hT : Sx S w.heap.size w3.heap.size = T at *
  refine .seq ?_
  refine .parF follows 12 [.inl _, .inr (eZ.at T (zc (pn a))), .inl _, .inr (eZ.at T (zc (pd b))), .inr (eZ.at T (zc (zval (zc (pn a)) * zval (zc (pd b))))), .inl _, .inr (eZ.at T (zc (pn b))), .inl _, .inr (eZ.at T (zc (pd a))), .inr (eZ.at T (zc (zval (zc (pn b)) * zval (zc (pd a))))),
      .inr (NewP w3.heap.size 35 #[.bool false, .slice none 0 0]), .inr (NewP w3.heap.size 35 #[.bool false, .slice none 0 0])]
      [[], [(7, 0)], [], [(9, 2)], [(8, 1), (10, 3)], [], [(12, 5)], [], [(14, 7)], [(13, 6), (15, 8)], [], []] (by kernel_rfl) ⟨
    fun w e => (v_ldA ty_Q rfl (k2.ext e) rfl).ob, fun w e => (g_call _ E_ref02_num rfl (ref02_num_c (up3.ext e.size) (ER.ext eQ ha3 e) hla hL9)).ob (st_at _ _ _),
    fun w e => (v_ldA ty_Q rfl (k3.ext e) rfl).ob, fun w e => (g_call _ E_ref02_den rfl (ref02_den_c (up3.ext e.size) (ER.ext eQ hb3' e) hlb hL9)).ob (st_at _ _ _),
    fun w e x hx y hy => (g_call _ E_ref01_Mul rfl (ref01_Mul_c (up3.ext e.size) hx hy (zl lna hL9) (zl ldb hL9))).ob (st_at _ _ _),
    fun w e => (v_ldA ty_Q rfl (k3.ext e) rfl).ob, fun w e => (g_call _ E_ref02_num rfl (ref02_num_c (up3.ext e.size) (ER.ext eQ hb3' e) hlb hL9)).ob (st_at _ _ _),
    fun w e => (v_ldA ty_Q rfl (k2.ext e) rfl).ob, fun w e => (g_call _ E_ref02_den rfl (ref02_den_c (up3.ext e.size) (ER.ext eQ ha3 e) hla hL9)).ob (st_at _ _ _),
    fun w e x hx y hy => (g_call _ E_ref01_Mul rfl (ref01_Mul_c (up3.ext e.size) hx hy (zl lnb hL9) (zl lda hL9))).ob (st_at _ _ _),
    fun w e => ob_alloc zero_Z e.size, fun w e => ob_alloc zero_Z e.size, trivial⟩
    ⟨fun h => (by cases h), fun h => (by cases h), fun h => (by cases h), fun h => (by cases h), fun h => (by cases h), fun h => (by cases h), fun h => (by cases h), fun h => (by cases h), fun h => (by cases h), fun h => (by cases h),
     fun _ => ⟨_, _, _, rfl, rfl, zero_Z, rfl, Nat.le_refl _⟩, fun _ => ⟨_, _, _, rfl, rfl, zero_Z, rfl, Nat.le_refl _⟩, trivial⟩ ?_
  rintro w4 e4 x1 - x2 - v11 h11 x4 - x5 - v16 h16 _ ⟨b5, rfl, hb5, k5⟩ _ ⟨b6, rfl, hb6, k6⟩ hA
  have hne : b6 ≠ b5 := by
    intro e
    subst e
    exact hA 5 6 _ _ (by decide) ⟨_, List.mem_of_getElem? (i := 10) rfl, rfl, rfl⟩ ⟨_, List.mem_of_getElem? (i := 11) rfl, rfl, rfl⟩ rfl rfl rfl
  rw [zval_zc, zval_zc] at h11 h16
  have h16' := eZ_sep (eZ_sep h16 k5 zero_sep) k6 zero_sep
  have h11' := eZ_sep (eZ_sep h11 k5 zero_sep) k6 zero_sep
  refine .storeA (E := eZ) ty_Z rfl rfl k5 rfl rfl h11' (fun h => h.1.2 rfl) fun w5 k5 u5 h11 => ?_
  refine .storeA (E := eZ) ty_Z rfl rfl (k6.upd u5 hne) rfl rfl (ER.upd eZ h16' u5 (fun h => h.1.2 rfl)) (fun h => h.2 rfl) fun w6 k6 u6 h16 => .nil ?_
  have h11 := ER.upd eZ h11 u6 (fun h => h.2 rfl)
  have k5 := k5.upd u6 (Ne.symm hne)
  have e36 : Ext w3 w6 := u6.below (u5.below e4 hb5) hb6
  have x6 := x3.trans e36
  have k2 := k2.ext e36
  have k3 := k3.ext e36
  have k4 := k4.ext e36
  have up6 := up3.ext e36.size
  have ha6 := ER.ext eQ ha3 e36
  have hb6' := ER.ext eQ hb3' e36
  have h11 : eZ.R T w6 v11 (zc (pn a * pd b)) := ER.mono eZ (fun _ _ h => h.1.1) h11
  have h16 : eZ.R T w6 v16 (zc (pn b * pd a)) := ER.mono eZ (fun _ _ h => h.1.1) h16
  obtain ⟨s11, rfl, hs11⟩ := h11
  have h11 : eZ.R T w6 (.agg #[.bool (zc (pn a * pd b)).neg, s11]) (zc (pn a * pd b)) := ⟨s11, rfl, hs11⟩
  obtain ⟨s16, rfl, hs16⟩ := h16
  have h16 : eZ.R T w6 (.agg #[.bool (zc (pn b * pd a)).neg, s16]) (zc (pn b * pd a)) := ⟨s16, rfl, hs16⟩
  refine .seq ?_
  have m1 := pow_mulz lna ldb
  have m2 := pow_mulz lnb lda
  have m3 := pow_mulz lda ldb
  have m4 := pow_addz m1 m2
  have m5 : 4294967296 ^ (L + L) ≤ 4294967296 ^ (L + L + 1) := Nat.pow_le_pow_right (by decide) (by omega)
  refine .par follows 9 [.inl (.agg #[.bool (zc (pn a * pd b)).neg, s11]), .inl (.agg #[.bool (zc (pn b * pd a)).neg, s16]), .inr (eZ.at T (zc (zval (zc (pn a * pd b)) + zval (zc (pn b * pd a))))), .inl _, .inr (eZ.at T (zc (pd a))), .inl _, .inr (eZ.at T (zc (pd b))), .inr (eZ.at T (zc (zval (zc (pd a)) * zval (zc (pd b))))),
      .inr (eQ.at T (qc (Rat.divInt (zval (zc (zval (zc (pn a * pd b)) + zval (zc (pn b * pd a))))) (zval (zc (zval (zc (pd a)) * zval (zc (pd b))))))))]
      [[], [], [(17, 0), (18, 1)], [], [(20, 3)], [], [(22, 5)], [(21, 4), (23, 6)], [(19, 2), (24, 7)]] (by kernel_rfl) ⟨
    fun w e => (v_ldA ty_Z rfl (k5.ext e) rfl).ob, fun w e => (v_ldA ty_Z rfl (k6.ext e) rfl).ob,
    fun w e => (g_call _ E_ref01_Add rfl (ref01_Add_c (up6.ext e.size) (ER.ext eZ h11 e) (ER.ext eZ h16 e) (zl m1 (by omega)) (zl m2 (by omega)))).ob (st_at _ _ _),
    fun w e => (v_ldA ty_Q rfl (k2.ext e) rfl).ob, fun w e => (g_call _ E_ref02_den rfl (ref02_den_c (up6.ext e.size) (ER.ext eQ ha6 e) hla hL9)).ob (st_at _ _ _),
    fun w e => (v_ldA ty_Q rfl (k3.ext e) rfl).ob, fun w e => (g_call _ E_ref02_den rfl (ref02_den_c (up6.ext e.size) (ER.ext eQ hb6' e) hlb hL9)).ob (st_at _ _ _),
    fun w e x hx y hy => (g_call _ E_ref01_Mul rfl (ref01_Mul_c (up6.ext e.size) hx hy (zl lda hL9) (zl ldb hL9))).ob (st_at _ _ _),
    fun w e x hx y hy => (g_call _ E_ref02_over rfl (ref02_over_c (L := L + L + 1) (up6.ext e.size) hx hy (zl (by rw [zval_zc, zval_zc]; exact m4) (Nat.le_refl _)) (zl (by rw [zval_zc, zval_zc]; exact m3) (by omega)) (by omega) (by rw [zval_zc, zval_zc, zval_zc]; exact hpp))).ob (st_at _ _ _), trivial⟩ ?_
  intro w7 e7 x1 _ x2 _ x3' _ x4 _ z hz
  rw [zval_zc, zval_zc, zval_zc, zval_zc, zval_zc, zval_zc, ← Rat.divInt_add_divInt _ _ (by omega) (by omega)] at hz
  refine .storeA (E := eQ) ty_Q rfl rfl (k4.ext e7) rfl rfl hz hS4 fun w8 k8 u8 h8 => .nil (.ret ?_)
  exact .cell Tryz.results76 rfl ty_Q rfl rfl k8 h8 ⟨u8.below (x6.trans e7) (by omega), hout h8⟩
end Go.Proofs.YtccmemilofoamaaGreat

namespace Go.Kx
open Go Go.RowKit
/-- a new row of one element, among others -/
@[reducible] def NewE {α : Type} (E : ER α) (T : Nat → Prop) (B : Nat) (t : TypeId) (n : α) : Value → World → Prop := fun v W => ∃ b e, v = .slice (some ⟨b, 0, none⟩) 1 1 ∧ B ≤ b ∧ Blk W b t e.cells ∧ E.R T W e n
theorem ob_bslE {P : Program} {σ : Env} {w : World} {d : Option Tmp} {ty : TypeId} {pos : String} {af : Array Edge} {g : Option (Nat × Bool)} {α : Type} {E : ER α} {T : Nat → Prop} {n : α} {t te : TypeId} {B : Nat} {ps : List (Nat × Operand)} {x : Value} (hv : evp σ ps = some [(0, x)]) (hc : bslOf P t 1 [(0, x)] = some (te, x.cells)) (hx : E.R T w x n) (hB : B ≤ w.heap.size) :
    Gv P ⟨d, .buildSlice t 1 ps.toArray, ty, pos, af, g⟩ σ w fun v' w' => Ext w w' ∧ Sp.ok (.inr (NewE E T B te n)) v' w' :=
  (g_bsl _ hv hc).mono fun v' w' ⟨b, hv, hn⟩ => ⟨hn.1, fun w'' e => ⟨b, x, hv, by have := hn.2.2.1; omega, hn.2.1.ext e, E.ext (E.ext hx hn.1) e⟩⟩
def atI (a : List QV) (i : Int) : QV := if i < 0 then q0 else a.getD i.toNat q0
theorem atI_nat (a : List QV) (i : Nat) : atI a i = a.getD i q0 := by
  unfold atI; rw [if_neg (by omega)]; simp
end Go.Kx
namespace Go.Proofs.YtccmemilofoamaaGreat
open Go Go.Kx Go.RowKit

theorem E_ref03_At : Ent Tryz.prog 113 := ent_of Tryz.func113 (by kernel_rfl) rfl
theorem ref03_At_c {S : Nat → Prop} {w : World} {v : Value} {a : List QV} {i : Int} (h : eV.R S w v a) : CR Tryz.prog 113 #[v, .int .i64 i] w (eQ.at S (atI a i)) := by
  refine enter Tryz.func113 rfl Tryz.ntmps113 rfl ?_
  refine .seq (.region (.alloc rfl zero_Q fun w1 b4 n1 => .nil ?_))
  obtain ⟨e1, k4, hb4, hs1⟩ := n1
  have hS4 : ¬ Sx S w.heap.size w1.heap.size b4 := Sx.no (by omega) (by omega)
  have h1 := (ER.par eV h w1.heap.size).ext e1
  refine .seq (.seq (.region (.mv rfl rfl ?_)))
  by_cases h0 : 0 ≤ i
  · refine .geqT rfl rfl rfl h0 (.mv rfl rfl (.gr rfl rfl rfl rfl (.mv rfl rfl (.gr rfl rfl rfl rfl (.mv rfl rfl (.gr rfl rfl rfl rfl (.lenR un_V rfl rfl h1 (.gr rfl rfl rfl rfl ?_))))))))
    by_cases hl : i < a.length
    · refine .lssT rfl rfl rfl hl (.pick rfl rfl rfl (.nil (.condT rfl (.seq (.region (.mv rfl rfl (.mv rfl rfl ?_)))))))
      obtain ⟨j, rfl⟩ : ∃ j : Nat, i = j := ⟨i.toNat, by omega⟩
      refine .ixN (i := j) un_V ty_Q rfl rfl h1 rfl (getD_get' (z := q0) (by omega)) fun p hp => .ldE ty_Q rfl rfl hp fun e he => ?_
      refine .storeA (E := eQ) ty_Q rfl rfl k4 rfl rfl he hS4 fun w5 k5 u5 h5 => .nil (.ret ?_)
      exact .cell Tryz.results113 rfl ty_Q rfl rfl k5 h5 ⟨u5.below e1 (by omega), by rw [atI_nat]; exact h5.out⟩
    · refine .lssF rfl rfl rfl hl (.pick rfl rfl rfl (.nil (.condF rfl (.skip (.seq (.region (.bld [] rfl rfl bld_Q0 ?_)))))))
      have hq : eQ.R (Sx S w.heap.size w1.heap.size) w1 (.agg #[.bool false, .slice none 0 0, .bool false, .slice none 0 0]) q0 := ⟨_, _, rfl, RL.nil, RL.nil⟩
      refine .storeA (E := eQ) ty_Q rfl rfl k4 rfl rfl hq hS4 fun w5 k5 u5 h5 => .nil (.ret ?_)
      refine .cell Tryz.results113 rfl ty_Q rfl rfl k5 h5 ⟨u5.below e1 (by omega), ?_⟩
      rw [show atI a i = q0 by unfold atI; rw [if_neg (by omega), List.getD_eq_getElem?_getD, List.getElem?_eq_none (by omega)]; rfl]
      exact h5.out
  · refine .geqF rfl rfl rfl h0 (.mv rfl rfl (.gs rfl rfl rfl rfl rfl (.gs rfl rfl rfl rfl rfl (.gs rfl rfl rfl rfl rfl (.gs rfl rfl rfl rfl rfl (.pick rfl rfl rfl (.nil (.condF rfl (.skip (.seq (.region (.bld [] rfl rfl bld_Q0 ?_))))))))))))
    have hq : eQ.R (Sx S w.heap.size w1.heap.size) w1 (.agg #[.bool false, .slice none 0 0, .bool false, .slice none 0 0]) q0 := ⟨_, _, rfl, RL.nil, RL.nil⟩
    refine .storeA (E := eQ) ty_Q rfl rfl k4 rfl rfl hq hS4 fun w5 k5 u5 h5 => .nil (.ret ?_)
    refine .cell Tryz.results113 rfl ty_Q rfl rfl k5 h5 ⟨u5.below e1 (by omega), ?_⟩
    rw [show atI a i = q0 by unfold atI; rw [if_pos (by omega)]]
    exact h5.out
end Go.Proofs.YtccmemilofoamaaGreat

namespace Go.Proofs.YtccmemilofoamaaGreat
open Go Go.Kx Go.RowKit

theorem bslE_V {x y z u : Value} : bslOf Tryz.prog 23 1 [(0, .agg #[x, y, z, u])] = some (37, (Value.agg #[x, y, z, u]).cells) := by kernel_rfl

theorem E_ref03_Combine : Ent Tryz.prog 80 := ent_of Tryz.func80 (by kernel_rfl) rfl
theorem ref03_Combine_c {S : Nat → Prop} {w : World} {vk_ va vb : Value} {k : QV} {a b : List QV} {L : Nat} (up : Up S w) (hk : eQ.R S w vk_ k) (ha : eV.R S w va a) (hb : eV.R S w vb b) (hkk : qk L k) (hka : vk L a) (hkb : vk L b) (hL : 1 ≤ L) (hL2 : L ≤ 100000000) (hla : a.length ≤ 100000000) (hlb : b.length ≤ 100000000) :
    CR Tryz.prog 80 #[vk_, va, vb] w (eV.at S (tab (max a.length b.length) fun i => qval k * rv a i + rv b i)) := by
  obtain ⟨s, t, rfl, hs, ht⟩ := hk
  have hk : eQ.R S w (.agg #[.bool k.num.neg, s, .bool k.den.neg, t]) k := ⟨s, t, rfl, hs, ht⟩
  refine enter Tryz.func80 rfl Tryz.ntmps80 rfl ?_
  refine .seq (.region (.box rfl rfl fun w1 b3 n1 => .asg rfl rfl (.nil (.seq (.region (.asg rfl rfl (.nil (.seq (.seq (.region (.asg rfl rfl (.nil ?_))))))))))))
  obtain ⟨e1, k3, hb3, hs1⟩ := n1
  have hB1 : ∀ {W : World}, Ext w1 W → Kp (fun k => S k ∧ k < w1.heap.size) w1 W := fun hB k c t f hk h => (hB.block k hk.2).trans h
  have hK : ∀ {W : World}, Ext w1 W → eQ.R (fun k => S k ∧ k < w1.heap.size) W (.agg #[.bool k.num.neg, s, .bool k.den.neg, t]) k := fun hB => eQ.keep (hB1 hB) (ER.lt eQ (ER.ext eQ hk e1))
  have hA : ∀ {W : World}, Ext w1 W → eV.R (fun k => S k ∧ k < w1.heap.size) W va a := fun hB => eV.keep (hB1 hB) (ER.lt eV (ER.ext eV ha e1))
  have hBb : ∀ {W : World}, Ext w1 W → eV.R (fun k => S k ∧ k < w1.heap.size) W vb b := fun hB => eV.keep (hB1 hB) (ER.lt eV (ER.ext eV hb e1))
  have up1 := up.ext e1.size
  generalize hf : (fun i => qc (qval k * rv a i + rv b i)) = f
  generalize hM : max a.length b.length = M
  refine .block (.loop (α := Nat × Value) (fun x => [(1, va), (2, vb), (3, .pointer (some ⟨b3, 0, none⟩)), (7, x.2), (8, .int .i64 (x.1 : Nat))]) (fun x W => Ext w1 W ∧ x.1 ≤ M ∧ OwnL eQ 37 w1.heap.size S W x.2 ((List.range x.1).map f)) (fun x => M - x.1) (0, .slice none 0 0) ?_ ?_ ?_)
  · exact look_cons rfl (look_cons rfl (look_cons rfl (look_cons rfl (look_cons rfl look_nil))))
  · exact ⟨Ext.refl _, Nat.zero_le _, OwnL.nil⟩
  · rintro ⟨i, u⟩ W ⟨hB, hi, ho⟩
    replace hB : Ext w1 W := hB
    replace hi : i ≤ M := hi
    replace ho : OwnL eQ 37 w1.heap.size S W u ((List.range i).map f) := ho
    refine .weak [(1, va), (2, vb), (3, .pointer (some ⟨b3, 0, none⟩)), (7, u), (8, .int .i64 (i : Nat))] (fun t v h => h) ?_
    have hsz := hB.size
    have fin : i = M → Ext w W ∧ eV.at S (tab M fun i => qval k * rv a i + rv b i) u W := by
      intro h
      subst h
      refine ⟨e1.trans hB, ?_⟩
      unfold tab
      rw [hf]
      exact ho.toR (fun k hk => up1 k hk) (fun _ h => h)
    refine .mid (α := Unit) (fun _ => [(1, va), (2, vb), (3, .pointer (some ⟨b3, 0, none⟩)), (7, u), (8, .int .i64 (i : Nat))]) (fun _ W' => W' = W ∧ i < M) ?_ ?_
    · refine .seq (.region (.mv rfl rfl (.mv rfl rfl (.lenR un_V rfl rfl (hA hB) ?_))))
      by_cases h1 : i < a.length
      · refine .lssT rfl rfl rfl (by omega) (.mv rfl rfl (.gs rfl rfl rfl rfl rfl (.gs rfl rfl rfl rfl rfl (.gs rfl rfl rfl rfl rfl (.gs rfl rfl rfl rfl rfl (.pick rfl rfl rfl (.nil (.condT rfl (.skip ?_)))))))))
        exact ⟨rfl, (), look_cons rfl (look_cons rfl (look_cons rfl (look_cons rfl (look_cons rfl look_nil)))), rfl, by omega⟩
      · refine .lssF rfl rfl rfl (by omega) (.mv rfl rfl (.gr rfl rfl rfl rfl (.mv rfl rfl (.gr rfl rfl rfl rfl (.mv rfl rfl (.gr rfl rfl rfl rfl (.lenR un_V rfl rfl (hBb hB) (.gr rfl rfl rfl rfl ?_))))))))
        by_cases h2 : i < b.length
        · refine .lssT rfl rfl rfl (by omega) (.pick rfl rfl rfl (.nil (.condT rfl (.skip ?_))))
          exact ⟨rfl, (), look_cons rfl (look_cons rfl (look_cons rfl (look_cons rfl (look_cons rfl look_nil)))), rfl, by omega⟩
        · refine .lssF rfl rfl rfl (by omega) (.pick rfl rfl rfl (.nil (.condF rfl (.exit (.seq (.region (.mv rfl rfl (.asg rfl rfl (.nil (.ret ?_))))))))))
          exact .plain [_] Tryz.results80 ⟨rfl, trivial⟩ (fin (by omega))
    · rintro _ W' ⟨hWW, hlt⟩
      have hWW := hWW.symm
      subst hWW
      obtain ⟨es, ho1, ho2⟩ := id ho
      have hTu : ∀ k', S k' ∧ k' < w1.heap.size → S k' ∧ u.ownBlock ≠ some k' := fun k' hk' => ⟨hk'.1, fun h => by have := (ho1.lt k' h).1; have := hk'.2; omega⟩
      have hKT := eQ.mono (fun k' _ h => hTu k' h) (hK hB)
      have hAT := eV.mono (fun k' _ h => hTu k' h) (hA hB)
      have hBT := eV.mono (fun k' _ h => hTu k' h) (hBb hB)
      have upT : Up (fun k' => S k' ∧ u.ownBlock ≠ some k') W := fun k' hk' => ⟨up1 k' (by omega), fun h => by have := (ho1.lt k' h).2; omega⟩
      generalize hT : (fun k' => S k' ∧ u.ownBlock ≠ some k') = T at *
      have k3W := k3.ext hB
      have hai := (hka.get hL i).1
      have hbi := (hkb.get hL i).1
      have hm2 : Rsz (qval k * qval (atI a i)) (L + L) := by rw [atI_nat]; exact hkk.2.mul (hka.get hL i).2
      refine .seq (.block ?_)
      refine .par follows 11 [.inl u, .inl (.agg #[.bool k.num.neg, s, .bool k.den.neg, t]), .inl va, .inl (.int .i64 (i : Nat)), .inr (eQ.at T (atI a i)), .inr (eQ.at T (qc (qval k * qval (atI a i)))), .inl vb, .inl (.int .i64 (i : Nat)), .inr (eQ.at T (atI b i)), .inr (eQ.at T (qc (qval (qc (qval k * qval (atI a i))) + qval (atI b i)))), .inr (NewE eQ T W.heap.size 37 (qc (qval (qc (qval k * qval (atI a i))) + qval (atI b i))))]
          [[], [], [], [], [(23, 2), (24, 3)], [(22, 1), (25, 4)], [], [], [(27, 6), (28, 7)], [(26, 5), (29, 8)], [(30, 9)]] (by kernel_rfl) ⟨
        fun w e => (v_mv rfl).ob, fun w e => (v_ldA ty_Q rfl (k3W.ext e) rfl).ob, fun w e => (v_mv rfl).ob, fun w e => (v_mv rfl).ob,
        fun w e => (g_call _ E_ref03_At rfl (ref03_At_c (ER.ext eV hAT e))).ob (st_at _ _ _),
        fun w e x hx => (g_call _ E_ref02_Mul rfl (ref02_Mul_c (L := L) (upT.ext e.size) (ER.ext eQ hKT e) hx hkk.1 (by rw [atI_nat]; exact hai) hL (by omega))).ob (st_at _ _ _),
        fun w e => (v_mv rfl).ob, fun w e => (v_mv rfl).ob,
        fun w e => (g_call _ E_ref03_At rfl (ref03_At_c (ER.ext eV hBT e))).ob (st_at _ _ _),
        fun w e x hx y hy => (g_call _ E_ref02_Add rfl (ref02_Add_c (L := L + L) (upT.ext e.size) hx hy hm2.toOk (by rw [atI_nat]; exact hbi.mono (by omega)) (by omega) (by omega))).ob (st_at _ _ _),
        fun w e x hx => by
          obtain ⟨p1, p2, rfl, hp1, hp2⟩ := hx
          exact ob_bslE (E := eQ) (T := T) rfl bslE_V ⟨p1, p2, rfl, hp1, hp2⟩ e.size, trivial⟩ ?_
      rintro W2 e2 x1 - x2 - x3 - x4 - _ ⟨b5, e5, rfl, hb5, k5, h5⟩
      rw [qval_qc, atI_nat, atI_nat] at h5
      have hB2 := hB.trans e2
      subst hT
      refine .gv rfl rfl (g_appL (E := eQ) (base := w1.heap.size) (by decide) un_V info_Q rfl rfl rfl (ho.ext e2) k5 h5 (by simp; omega) (by decide) hB2.size) ?_
      rintro v4 W4 ⟨ho4, hg4⟩
      refine .asg rfl rfl (.nil (.region (.mv rfl rfl (.add rfl rfl rfl (.asg rfl rfl (.nil ?_))))))
      rw [wI (by omega)]
      refine ⟨rfl, (i + 1, v4), look_cons rfl (look_cons rfl (look_cons rfl (look_cons rfl (look_cons rfl look_nil)))), ⟨(ho.ext e2).below hg4 hB2 hB2.size, hlt, ?_⟩, by show M - (i + 1) < M - i; omega⟩
      show OwnL eQ 37 w1.heap.size S W4 v4 ((List.range (i + 1)).map f)
      rw [List.range_succ, List.map_append, ← hf]
      rw [← hf] at ho4
      exact ho4

theorem E_ref03_Scale : Ent Tryz.prog 78 := ent_of Tryz.func78 (by kernel_rfl) rfl
theorem ref03_Scale_c {S : Nat → Prop} {w : World} {vk_ va : Value} {k : QV} {a : List QV} {L : Nat} (up : Up S w) (hk : eQ.R S w vk_ k) (ha : eV.R S w va a) (hkk : qk L k) (hka : vk L a) (hL : 1 ≤ L) (hL2 : L ≤ 100000000) (hla : a.length ≤ 100000000) :
    CR Tryz.prog 78 #[vk_, va] w (eV.at S (tab a.length fun i => qval k * rv a i)) := by
  obtain ⟨s, t, rfl, hs, ht⟩ := hk
  have hk : eQ.R S w (.agg #[.bool k.num.neg, s, .bool k.den.neg, t]) k := ⟨s, t, rfl, hs, ht⟩
  refine enter Tryz.func78 rfl Tryz.ntmps78 rfl ?_
  refine .seq (.region (.box rfl rfl fun w1 b2 n1 => .asg rfl rfl (.nil ?_)))
  obtain ⟨e1, k2, hb2, hs1⟩ := n1
  refine .seq (.region (.ldA ty_Q rfl rfl k2 rfl (.mv rfl rfl ?_)))
  refine .call _ rfl E_ref03_Combine rfl (ref03_Combine_c (b := []) (up.ext e1.size) (ER.ext eQ hk e1) (ER.ext eV ha e1) RL.nil hkk hka vk_nil hL hL2 hla (by simp)) fun v2 w2 e2 h2 => .asg rfl rfl (.nil (.ret ?_))
  refine .plain [_] Tryz.results78 ⟨rfl, trivial⟩ ⟨e1.trans e2, ?_⟩
  have : (fun i => qval k * rv a i + rv [] i) = fun i => qval k * rv a i := by
    funext i; rw [rv_nil, Rat.add_zero]
  rw [this, show max a.length ([] : List QV).length = a.length by simp] at h2
  exact h2

end Go.Proofs.YtccmemilofoamaaGreat

namespace Go.Kx
theorem rmI_atI (m : List (List QV)) (i : Nat) (k : Int) : qval (atI (m.getD i []) k) = rmI m i k := by
  unfold rmI atI
  by_cases h : k < 0
  · rw [if_pos h, if_pos (.inr h)]; exact qval_q0
  · rw [if_neg h, if_neg (by omega)]; simp [rm, rv]
end Go.Kx
namespace Go.Proofs.YtccmemilofoamaaGreat
open Go Go.Kx Go.RowKit

theorem E_ref04_At : Ent Tryz.prog 73 := ent_of Tryz.func73 (by kernel_rfl) rfl
theorem ref04_At_c {S : Nat → Prop} {w : World} {vm : Value} {m : List (List QV)} {i k : Int} {L : Nat} (up : Up S w) (hm : eM.R S w vm m) (hk : mk_ L m) (hL : 1 ≤ L) (hL2 : L ≤ 1000000000) : CR Tryz.prog 73 #[vm, .int .i64 i, .int .i64 k] w (eQ.at S (qc (rmI m i k))) := by
  refine enter Tryz.func73 rfl Tryz.ntmps73 rfl ?_
  refine .seq (.region (.alloc rfl zero_Q fun w1 b6 n1 => .nil ?_))
  obtain ⟨e1, k6, hb6, hs1⟩ := n1
  have hS : ¬ Sx S w.heap.size w1.heap.size b6 := Sx.no (by omega) (by omega)
  have up1 : Up (Sx S w.heap.size w1.heap.size) w1 := Sx.up up (Nat.le_refl _) e1.size
  have h1 := (ER.par eM hm w1.heap.size).ext e1
  have hout : ∀ {W : World} {v : Value} {z : QV}, eQ.R (Sx S w.heap.size w1.heap.size) W v z → eQ.R S W v z := fun h => h.out
  generalize hT : Sx S w.heap.size w1.heap.size = T at *
  have hq : eQ.R T w1 (.agg #[.bool false, .slice none 0 0, .bool false, .slice none 0 0]) (qc 0) := by rw [qc_zero]; exact ⟨_, _, rfl, RL.nil, RL.nil⟩
  refine .seq (.seq (.region (.mv rfl rfl ?_)))
  by_cases h0 : i < 0
  · refine .lssT rfl rfl rfl h0 (.mv rfl rfl (.gs rfl rfl rfl rfl rfl (.gs rfl rfl rfl rfl rfl (.gs rfl rfl rfl rfl rfl (.gs rfl rfl rfl rfl rfl (.pick rfl rfl rfl (.nil (.condT rfl (.seq (.region (.bld [] rfl rfl bld_Q0 ?_)))))))))))
    refine .storeA (E := eQ) ty_Q rfl rfl k6 rfl rfl hq hS fun w5 k5 u5 h5 => .nil (.ret ?_)
    refine .cell Tryz.results73 rfl ty_Q rfl rfl k5 h5 ⟨u5.below e1 (by omega), ?_⟩
    rw [show rmI m i k = 0 by unfold rmI; rw [if_pos (.inl h0)]]
    exact hout h5
  · refine .lssF rfl rfl rfl h0 (.mv rfl rfl (.gr rfl rfl rfl rfl (.mv rfl rfl (.gr rfl rfl rfl rfl (.mv rfl rfl (.gr rfl rfl rfl rfl (.lenR un_M rfl rfl h1 (.gr rfl rfl rfl rfl ?_))))))))
    by_cases hl : (m.length : Int) ≤ i
    · refine .geqT rfl rfl rfl hl (.pick rfl rfl rfl (.nil (.condT rfl (.seq (.region (.bld [] rfl rfl bld_Q0 ?_))))))
      refine .storeA (E := eQ) ty_Q rfl rfl k6 rfl rfl hq hS fun w5 k5 u5 h5 => .nil (.ret ?_)
      refine .cell Tryz.results73 rfl ty_Q rfl rfl k5 h5 ⟨u5.below e1 (by omega), ?_⟩
      rw [show rmI m i k = 0 by unfold rmI; split; rfl; exact rm_out (by omega)]
      exact hout h5
    · refine .geqF rfl rfl rfl hl (.pick rfl rfl rfl (.nil (.condF rfl (.skip (.seq (.region (.mv rfl rfl (.mv rfl rfl ?_))))))))
      obtain ⟨j, rfl⟩ : ∃ j : Nat, i = j := ⟨i.toNat, by omega⟩
      refine .ixN (i := j) un_M ty_V rfl rfl h1 rfl (getD_get' (z := []) (by omega)) fun p hp => .ldE ty_V rfl rfl hp fun e he => .mv rfl rfl ?_
      refine .call _ rfl E_ref03_At rfl (ref03_At_c he) fun v2 w2 e2 h2 => ?_
      have hqa : qok L (atI (m.getD j []) k) := by
        unfold atI; split
        · exact (qk_q0 hL).1
        · exact ((hk.get j).get hL _).1
      refine .call _ rfl E_ref02_Least rfl (ref02_Least_c (up1.ext e2.size) h2 hqa hL hL2) fun v3 w3 e3 h3 => ?_
      rw [rmI_atI] at h3
      refine .storeA (E := eQ) ty_Q rfl rfl ((k6.ext e2).ext e3) rfl rfl h3 hS fun w5 k5 u5 h5 => .nil (.ret ?_)
      exact .cell Tryz.results73 rfl ty_Q rfl rfl k5 h5 ⟨u5.below ((e1.trans e2).trans e3) (by omega), hout h5⟩

theorem E_ref04_place : Ent Tryz.prog 148 := ent_of Tryz.func148 (by kernel_rfl) rfl
theorem ref04_place1_c {S : Nat → Prop} {w : World} {vk_ va vb : Value} {k : QV} {a : List (List QV)} {i j : Int} {L : Nat} (up : Up S w) (hk : eQ.R S w vk_ k) (ha : eM.R S w va a) (hka : mk_ L a) (hL : 1 ≤ L) (hL2 : L ≤ 1000000000) :
    CR Tryz.prog 148 #[.int .u8 1, vk_, va, vb, .int .i64 i, .int .i64 j] w (eQ.at S (qc (rmI a j i))) := by
  obtain ⟨s, t, rfl, hs, ht⟩ := hk
  refine enter Tryz.func148 rfl Tryz.ntmps148 rfl ?_
  refine .seq (.region (.box rfl rfl fun w1 b7 n1 => .alloc rfl zero_Q fun w2 b12 n2 => .nil ?_))
  obtain ⟨e1, k7, hb7, hs1⟩ := n1
  obtain ⟨e2, k12, hb12, hs2⟩ := n2
  have x2 := e1.trans e2
  have hS : ¬ Sx S w.heap.size w2.heap.size b12 := Sx.no (by omega) (by omega)
  have up2 : Up (Sx S w.heap.size w2.heap.size) w2 := Sx.up up (Nat.le_refl _) x2.size
  have ha2 := (ER.par eM ha w2.heap.size).ext x2
  refine .seq (.seq (.region (.mv rfl rfl (.nil (.block (.seq (.region (.eqlT rfl rfl rfl rfl (.asg rfl rfl (.nil (.condT rfl (.seq (.region (.mv rfl rfl (.mv rfl rfl (.mv rfl rfl ?_))))))))))))))))
  refine .call _ rfl E_ref04_At rfl (ref04_At_c up2 ha2 hka hL hL2) fun v3 w3 e3 h3 => ?_
  refine .storeA (E := eQ) ty_Q rfl rfl (k12.ext e3) rfl rfl h3 hS fun w5 k5 u5 h5 => .nil (.ret ?_)
  exact .cell Tryz.results148 rfl ty_Q rfl rfl k5 h5 ⟨u5.below (x2.trans e3) (by omega), h5.out⟩

theorem ref04_place0_c {S : Nat → Prop} {w : World} {vk_ va vb : Value} {k : QV} {a : List (List QV)} {i j : Int} {L : Nat} (up : Up S w) (hk : eQ.R S w vk_ k) (ha : eM.R S w va a) (hkk : qk L k) (hka : mk_ L a) (hL : 1 ≤ L) (hL2 : L ≤ 100000000) :
    CR Tryz.prog 148 #[.int .u8 0, vk_, va, vb, .int .i64 i, .int .i64 j] w (eQ.at S (qc (qval k * rmI a i j))) := by
  obtain ⟨s, t, rfl, hs, ht⟩ := hk
  have hk : eQ.R S w (.agg #[.bool k.num.neg, s, .bool k.den.neg, t]) k := ⟨s, t, rfl, hs, ht⟩
  refine enter Tryz.func148 rfl Tryz.ntmps148 rfl ?_
  refine .seq (.region (.box rfl rfl fun w1 b7 n1 => .alloc rfl zero_Q fun w2 b12 n2 => .nil ?_))
  obtain ⟨e1, k7, hb7, hs1⟩ := n1
  obtain ⟨e2, k12, hb12, hs2⟩ := n2
  have x2 := e1.trans e2
  have k7 := k7.ext e2
  have hS : ¬ Sx S w.heap.size w2.heap.size b12 := Sx.no (by omega) (by omega)
  have up2 : Up (Sx S w.heap.size w2.heap.size) w2 := Sx.up up (Nat.le_refl _) x2.size
  have ha2 := (ER.par eM ha w2.heap.size).ext x2
  have hk2 := (ER.par eQ hk w2.heap.size).ext x2
  have hout : ∀ {W : World} {v : Value} {z : QV}, eQ.R (Sx S w.heap.size w2.heap.size) W v z → eQ.R S W v z := fun h => h.out
  generalize hT : Sx S w.heap.size w2.heap.size = T at *
  have hr : qok L (qc (rmI a i j)) := by
    unfold rmI; split
    · exact (Rsz.zero hL).toOk
    · exact (hka.rsz hL _ _).toOk
  refine .seq (.seq (.region (.mv rfl rfl (.nil (.block (.seq (.region (.eqlF rfl rfl rfl (by decide) (.asg rfl rfl (.nil (.condF rfl (.seq (.region (.eqlF rfl rfl rfl (by decide) (.asg rfl rfl (.nil (.condF rfl (.seq (.region (.eqlF rfl rfl rfl (by decide) (.asg rfl rfl (.nil (.condF rfl (.skip (.seq ?_)))))))))))))))))))))))))
  refine .par follows 6 [.inl (.agg #[.bool k.num.neg, s, .bool k.den.neg, t]), .inl va, .inl (.int .i64 i), .inl (.int .i64 j), .inr (eQ.at T (qc (rmI a i j))), .inr (eQ.at T (qc (qval k * qval (qc (rmI a i j)))))] [[], [], [], [], [(61, 1), (62, 2), (63, 3)], [(60, 0), (64, 4)]] (by kernel_rfl) ⟨
    fun w e => (v_ldA ty_Q rfl (k7.ext e) rfl).ob, fun w e => (v_mv rfl).ob, fun w e => (v_mv rfl).ob, fun w e => (v_mv rfl).ob,
    fun w e => (g_call _ E_ref04_At rfl (ref04_At_c (up2.ext e.size) (ER.ext eM ha2 e) hka hL (by omega))).ob (st_at _ _ _),
    fun w e x hx => (g_call _ E_ref02_Mul rfl (ref02_Mul_c (up2.ext e.size) (ER.ext eQ hk2 e) hx hkk.1 hr hL (by omega))).ob (st_at _ _ _), trivial⟩ ?_
  rintro w3 e3 x - z hz
  rw [qval_qc] at hz
  refine .storeA (E := eQ) ty_Q rfl rfl (k12.ext e3) rfl rfl hz hS fun w5 k5 u5 h5 => .nil (.ret ?_)
  exact .cell Tryz.results148 rfl ty_Q rfl rfl k5 h5 ⟨u5.below (x2.trans e3) (by omega), hout h5⟩

end Go.Proofs.YtccmemilofoamaaGreat

namespace Go.Proofs.YtccmemilofoamaaGreat
open Go Go.Kx Go.RowKit

theorem own_base {w : World} {v : Value} {t : TypeId} {sz n B B' : Nat} {xs : List Value} (h : w.ownsRow B t sz v n xs) (hB : B' ≤ B) : w.ownsRow B' t sz v n xs := by
  refine ⟨h.1, ?_⟩
  rcases h.2 with h | ⟨g, cap, cur, h1, h2, h3⟩
  · exact .inl h
  · exact .inr ⟨g, cap, cur, h1, Nat.le_trans hB h2, h3⟩
theorem OwnL.base {α : Type} {E : ER α} {t : TypeId} {B B' : Nat} {X : Nat → Prop} {w : World} {v : Value} {l : List α} (h : OwnL E t B X w v l) (hB : B' ≤ B) : OwnL E t B' X w v l := by
  obtain ⟨es, h1, h2⟩ := h
  exact ⟨es, own_base h1 hB, h2⟩
theorem E_ref04_made : Ent Tryz.prog 120 := ent_of Tryz.func120 (by kernel_rfl) rfl
theorem ref04_madeF_c {S : Nat → Prop} {w : World} {r c : Nat} {kind : Int} {vk_ va vb : Value} {k : QV} {a b : List (List QV)} {f : Nat → Nat → Rat} (up : Up S w) (hk : eQ.R S w vk_ k) (ha : eM.R S w va a) (hb : eM.R S w vb b) (hr : r ≤ 100000000) (hc : c ≤ 100000000)
    (hf : ∀ {T : Nat → Prop} {W : World} {i j : Nat}, Up T W → eQ.R T W vk_ k → eM.R T W va a → eM.R T W vb b → i < r → j < c → CR Tryz.prog 148 #[.int .u8 kind, vk_, va, vb, .int .i64 i, .int .i64 j] W (eQ.at T (qc (f i j)))) :
    CR Tryz.prog 120 #[.int .i64 r, .int .i64 c, .int .u8 kind, vk_, va, vb] w (fun v W => OwnL eV 23 w.heap.size S W v (tabM r c f)) := by
  obtain ⟨s, t, rfl, hs, ht⟩ := hk
  have hk : eQ.R S w (.agg #[.bool k.num.neg, s, .bool k.den.neg, t]) k := ⟨s, t, rfl, hs, ht⟩
  refine enter Tryz.func120 rfl Tryz.ntmps120 rfl ?_
  refine .seq (.region (.box rfl rfl fun w1 b9 n1 => .asg rfl rfl (.nil (.seq (.region (.asg rfl rfl (.nil (.seq (.seq (.region (.asg rfl rfl (.nil ?_))))))))))))
  obtain ⟨e1, k9, hb9, hs1⟩ := n1
  have hB1 : ∀ {W : World}, Ext w1 W → Kp (fun k => S k ∧ k < w1.heap.size) w1 W := fun hB k c t f hk h => (hB.block k hk.2).trans h
  have hK : ∀ {W : World}, Ext w1 W → eQ.R (fun k => S k ∧ k < w1.heap.size) W (.agg #[.bool k.num.neg, s, .bool k.den.neg, t]) k := fun hB => eQ.keep (hB1 hB) (ER.lt eQ (ER.ext eQ hk e1))
  have hA : ∀ {W : World}, Ext w1 W → eM.R (fun k => S k ∧ k < w1.heap.size) W va a := fun hB => eM.keep (hB1 hB) (ER.lt eM (ER.ext eM ha e1))
  have hBb : ∀ {W : World}, Ext w1 W → eM.R (fun k => S k ∧ k < w1.heap.size) W vb b := fun hB => eM.keep (hB1 hB) (ER.lt eM (ER.ext eM hb e1))
  have up1 := up.ext e1.size
  generalize hG : (fun i => tab c (f i)) = G
  refine .block (.loop (α := Nat × Value) (fun x => [(0, .int .i64 (r : Nat)), (1, .int .i64 (c : Nat)), (2, .int .u8 kind), (4, va), (5, vb), (9, .pointer (some ⟨b9, 0, none⟩)), (13, x.2), (14, .int .i64 (x.1 : Nat))]) (fun x W => Ext w1 W ∧ x.1 ≤ r ∧ OwnL eV 23 w1.heap.size S W x.2 ((List.range x.1).map G)) (fun x => r - x.1) (0, .slice none 0 0) ?_ ?_ ?_)
  · exact look_cons rfl (look_cons rfl (look_cons rfl (look_cons rfl (look_cons rfl (look_cons rfl (look_cons rfl (look_cons rfl look_nil)))))))
  · exact ⟨Ext.refl _, Nat.zero_le _, OwnL.nil⟩
  · rintro ⟨i, u⟩ W ⟨hB, hi, ho⟩
    replace hB : Ext w1 W := hB
    replace hi : i ≤ r := hi
    replace ho : OwnL eV 23 w1.heap.size S W u ((List.range i).map G) := ho
    refine .weak [(0, .int .i64 (r : Nat)), (1, .int .i64 (c : Nat)), (2, .int .u8 kind), (4, va), (5, vb), (9, .pointer (some ⟨b9, 0, none⟩)), (13, u), (14, .int .i64 (i : Nat))] (fun t v h => h) ?_
    have hsz := hB.size
    refine .seq (.seq (.region (.mv rfl rfl (.mv rfl rfl ?_))))
    by_cases hlt : i < r
    · refine .lssT rfl rfl rfl (by omega) (.nil (.condT rfl (.skip (.seq (.block (.seq (.region (.asg rfl rfl (.nil ?_)))))))))
      obtain ⟨es, ho1, ho2⟩ := id ho
      have hTu : ∀ k', S k' ∧ k' < w1.heap.size → S k' ∧ u.ownBlock ≠ some k' := fun k' hk' => ⟨hk'.1, fun h => by have := (ho1.lt k' h).1; have := hk'.2; omega⟩
      have upT : Up (fun k' => S k' ∧ u.ownBlock ≠ some k') W := fun k' hk' => ⟨up1 k' (by omega), fun h => by have := (ho1.lt k' h).2; omega⟩
      refine .mid (α := Value) (fun x => [(0, .int .i64 (r : Nat)), (1, .int .i64 (c : Nat)), (2, .int .u8 kind), (4, va), (5, vb), (9, .pointer (some ⟨b9, 0, none⟩)), (13, u), (14, .int .i64 (i : Nat)), (15, x)]) (fun x W' => Ext W W' ∧ eV.R (fun k' => S k' ∧ u.ownBlock ≠ some k') W' x (tab c (f i))) ?_ ?_
      · refine .seq (.region (.asg rfl rfl (.nil ?_)))
        generalize hg : (fun j => qc (f i j)) = g
        refine .block (.loop (α := Nat × Value) (fun x => [(0, .int .i64 (r : Nat)), (1, .int .i64 (c : Nat)), (2, .int .u8 kind), (4, va), (5, vb), (9, .pointer (some ⟨b9, 0, none⟩)), (13, u), (14, .int .i64 (i : Nat)), (15, x.2), (16, .int .i64 (x.1 : Nat))]) (fun x W' => Ext W W' ∧ x.1 ≤ c ∧ OwnL eQ 37 W.heap.size (fun k' => S k' ∧ u.ownBlock ≠ some k') W' x.2 ((List.range x.1).map g)) (fun x => c - x.1) (0, .slice none 0 0) ?_ ?_ ?_)
        · exact look_cons rfl (look_cons rfl (look_cons rfl (look_cons rfl (look_cons rfl (look_cons rfl (look_cons rfl (look_cons rfl (look_cons rfl (look_cons rfl look_nil)))))))))
        · exact ⟨Ext.refl _, Nat.zero_le _, OwnL.nil⟩
        · rintro ⟨j, x⟩ W' ⟨hW, hj, hx⟩
          replace hW : Ext W W' := hW
          replace hj : j ≤ c := hj
          replace hx : OwnL eQ 37 W.heap.size (fun k' => S k' ∧ u.ownBlock ≠ some k') W' x ((List.range j).map g) := hx
          refine .weak [(0, .int .i64 (r : Nat)), (1, .int .i64 (c : Nat)), (2, .int .u8 kind), (4, va), (5, vb), (9, .pointer (some ⟨b9, 0, none⟩)), (13, u), (14, .int .i64 (i : Nat)), (15, x), (16, .int .i64 (j : Nat))] (fun t v h => h) ?_
          have hsz' := hW.size
          have hBW := hB.trans hW
          refine .seq (.seq (.region (.mv rfl rfl (.mv rfl rfl ?_))))
          by_cases hjl : j < c
          · refine .lssT rfl rfl rfl (by omega) (.nil (.condT rfl (.skip (.seq (.block (.region (.mv rfl rfl (.mv rfl rfl (.ldA ty_Q rfl rfl (k9.ext hBW) rfl (.mv rfl rfl (.mv rfl rfl (.mv rfl rfl (.mv rfl rfl ?_)))))))))))))
            obtain ⟨es', hx1, hx2⟩ := id hx
            have hTx : ∀ k', S k' ∧ k' < w1.heap.size → (S k' ∧ u.ownBlock ≠ some k') ∧ x.ownBlock ≠ some k' := fun k' hk' => ⟨hTu k' hk', fun h => by have := (hx1.lt k' h).1; have := hk'.2; omega⟩
            have upX : Up (fun k' => (S k' ∧ u.ownBlock ≠ some k') ∧ x.ownBlock ≠ some k') W' := fun k' hk' => ⟨upT k' (by omega), fun h => by have := (hx1.lt k' h).2; omega⟩
            refine .call _ rfl E_ref04_place rfl (hf upX (eQ.mono (fun k' _ h => hTx k' h) (hK hBW)) (eM.mono (fun k' _ h => hTx k' h) (hA hBW)) (eM.mono (fun k' _ h => hTx k' h) (hBb hBW)) hlt hjl) fun v2 W2 e2 h2 => ?_
            have hr' := h2
            obtain ⟨s2, t2, rfl, _, _⟩ := hr'
            refine .bsl _ rfl rfl bsl_V1 fun W3 b3 n3 => ?_
            obtain ⟨e3, k3, hb3, hs3⟩ := n3
            have e23 := e2.trans e3
            have hW3 := hW.trans e23
            refine .gv rfl rfl (g_appL (E := eQ) (base := W.heap.size) (by decide) un_V info_Q rfl rfl rfl (hx.ext e23) k3 (h2.ext e3) (by simp; omega) (by decide) hW3.size) ?_
            rintro v4 W4 ⟨ho4, hg4⟩
            refine .asg rfl rfl (.nil (.region (.mv rfl rfl (.add rfl rfl rfl (.asg rfl rfl (.nil ?_))))))
            rw [wI (by omega)]
            refine ⟨rfl, (j + 1, v4), look_cons rfl (look_cons rfl (look_cons rfl (look_cons rfl (look_cons rfl (look_cons rfl (look_cons rfl (look_cons rfl (look_cons rfl (look_cons rfl look_nil))))))))), ⟨(hx.ext e23).below hg4 hW3 hW3.size, hjl, ?_⟩, by show c - (j + 1) < c - j; omega⟩
            show OwnL eQ 37 W.heap.size (fun k' => S k' ∧ u.ownBlock ≠ some k') W4 v4 ((List.range (j + 1)).map g)
            rw [List.range_succ, List.map_append, ← hg]
            rw [← hg] at ho4
            exact ho4
          · refine .lssF rfl rfl rfl (by omega) (.nil (.condF rfl (.exit ?_)))
            have : j = c := by omega
            subst this
            refine ⟨rfl, x, look_cons rfl (look_cons rfl (look_cons rfl (look_cons rfl (look_cons rfl (look_cons rfl (look_cons rfl (look_cons rfl (look_cons rfl look_nil)))))))), hW, ?_⟩
            unfold tab
            rw [hg]
            exact hx.toR (fun k hk => upT k hk) (fun _ h => h)
      · rintro x W' ⟨hW, hx⟩
        have hBW := hB.trans hW
        obtain ⟨ar, cr, hvr, _⟩ := RL.len hx
        rw [tab_length] at hvr
        subst hvr
        refine .region (.mv rfl rfl (.mv rfl rfl (.bsl _ rfl rfl bsl_M1 fun W3 b3 n3 => ?_)))
        obtain ⟨e3, k3, hb3, hs3⟩ := n3
        have e23 := hW.trans e3
        have hB3 := hB.trans e23
        refine .gv rfl rfl (g_appL (E := eV) (base := w1.heap.size) (n := tab c (f i)) (e := .slice ar c cr) (by decide) un_M info_V rfl rfl rfl (ho.ext e23) k3 (ER.ext eV hx e3) (by simp; omega) (by decide) hB3.size) ?_
        rintro v4 W4 ⟨ho4, hg4⟩
        refine .asg rfl rfl (.nil (.region (.mv rfl rfl (.add rfl rfl rfl (.asg rfl rfl (.nil ?_))))))
        rw [wI (by omega)]
        refine ⟨rfl, (i + 1, v4), look_cons rfl (look_cons rfl (look_cons rfl (look_cons rfl (look_cons rfl (look_cons rfl (look_cons rfl (look_cons rfl look_nil))))))), ⟨(ho.ext e23).below hg4 hB3 hB3.size, hlt, ?_⟩, by show r - (i + 1) < r - i; omega⟩
        show OwnL eV 23 w1.heap.size S W4 v4 ((List.range (i + 1)).map G)
        rw [List.range_succ, List.map_append, ← hG]
        rw [← hG] at ho4
        exact ho4
    · refine .lssF rfl rfl rfl (by omega) (.nil (.condF rfl (.exit (.seq (.region (.mv rfl rfl (.asg rfl rfl (.nil (.ret ?_)))))))))
      have : i = r := by omega
      subst this
      refine .plain [_] Tryz.results120 ⟨rfl, trivial⟩ ⟨e1.trans hB, ?_⟩
      unfold tabM
      rw [hG]
      exact OwnL.base ho e1.size
theorem ref04_made_c {S : Nat → Prop} {w : World} {r c : Nat} {kind : Int} {vk_ va vb : Value} {k : QV} {a b : List (List QV)} {f : Nat → Nat → Rat} (up : Up S w) (hk : eQ.R S w vk_ k) (ha : eM.R S w va a) (hb : eM.R S w vb b) (hr : r ≤ 100000000) (hc : c ≤ 100000000)
    (hf : ∀ {T : Nat → Prop} {W : World} {i j : Nat}, Up T W → eQ.R T W vk_ k → eM.R T W va a → eM.R T W vb b → i < r → j < c → CR Tryz.prog 148 #[.int .u8 kind, vk_, va, vb, .int .i64 i, .int .i64 j] W (eQ.at T (qc (f i j)))) :
    CR Tryz.prog 120 #[.int .i64 r, .int .i64 c, .int .u8 kind, vk_, va, vb] w (eM.at S (tabM r c f)) :=
  (ref04_madeF_c up hk ha hb hr hc hf).mono fun _ _ _ h => h.toR (fun k hk => up k hk) (fun _ h => h)
end Go.Proofs.YtccmemilofoamaaGreat

namespace Go.Proofs.YtccmemilofoamaaGreat
open Go Go.Kx Go.RowKit

theorem E_ref04_Turn : Ent Tryz.prog 72 := ent_of Tryz.func72 (by kernel_rfl) rfl
theorem ref04_Turn_c {S : Nat → Prop} {w : World} {va : Value} {a : List (List QV)} {L : Nat} (up : Up S w) (ha : eM.R S w va a) (hka : mk_ L a) (hL : 1 ≤ L) (hL2 : L ≤ 1000000000) (hra : a.length ≤ 100000000) (hca : colsOf a ≤ 100000000) :
    CR Tryz.prog 72 #[va] w (eM.at S (tabM (colsOf a) a.length fun i k => rm a k i)) := by
  refine enter Tryz.func72 rfl Tryz.ntmps72 rfl ?_
  refine .seq (.region (.asg rfl rfl (.nil (.seq (.region (.mv rfl rfl ?_))))))
  refine .call _ rfl E_ref04_Cols rfl (ref04_Cols_c ha) fun v1 w1 e1 h1 => ?_
  subst h1
  refine .mv rfl rfl (.lenR un_M rfl rfl (ER.ext eM ha e1) (.bld [] rfl rfl bld_Q0 (.mv rfl rfl ?_)))
  refine .call _ rfl E_ref04_made rfl (ref04_made_c (k := q0) (b := []) (f := fun i k => rm a k i) (up.ext e1.size) ⟨_, _, rfl, RL.nil, RL.nil⟩ (ER.ext eM ha e1) RL.nil (by omega) (by omega) fun {T W i j} u hk ha hb hi hj => by
    have := ref04_place1_c (i := i) (j := j) (vb := .slice none 0 0) u hk ha hka hL hL2
    rwa [rmI_nat] at this) fun v2 w2 e2 h2 => .asg rfl rfl (.nil (.ret ?_))
  exact .plain [_] Tryz.results72 ⟨rfl, trivial⟩ ⟨e1.trans e2, h2⟩

end Go.Proofs.YtccmemilofoamaaGreat

namespace Go.Proofs.YtccmemilofoamaaGreat
open Go Go.Kx Go.RowKit

end Go.Proofs.YtccmemilofoamaaGreat

namespace Go.Proofs.YtccmemilofoamaaGreat
open Go Go.Kx Go.RowKit

end Go.Proofs.YtccmemilofoamaaGreat

namespace Go.Proofs.YtccmemilofoamaaGreat
open Go Go.Kx Go.RowKit

end Go.Proofs.YtccmemilofoamaaGreat

namespace Go.Kx
open Go Go.RowKit
section
variable {P : Program} {σ : Env} {w : World} {d : Option Tmp} {ty : TypeId} {pos : String} {af : Array Edge} {g : Option (Nat × Bool)}
/-- append(nil, s...) -/
theorem g_appWs {S : Nat → Prop} {t e : TypeId} {x y : Operand} {u : Value} {s : List Nat} (ht : P.underlying t = some (.slice e)) (hi : infoOf P e = some (.int .u32 0, 1, 4)) (hx : ev σ x = some (.slice none 0 0)) (hy : ev σ y = some u)
    (hs : eW.R S w u s) (hl2 : s.length ≤ 1000000000000) :
    Gv P ⟨d, .call { callee := .builtin .append, args := #[x, y], argTypes := #[t, t] }, ty, pos, af, g⟩ σ w fun v' w' => OwnW e w.heap.size w' v' s ∧ Ext w w' := by
  have hds : dig s := eW_lt hs
  have hown : OwnW e w.heap.size w (.slice none 0 0) [] := ⟨⟨rfl, .inl ⟨rfl, rfl⟩⟩, fun x hx => by cases hx⟩
  obtain ⟨es, he, a, c, rfl, hc, _, hcl, hcells⟩ := hs
  have hes : es = s.map wv := by
    apply List.ext_getElem?
    intro i
    rw [List.getElem?_map]
    cases hi : s[i]? with
    | none => rw [List.getElem?_eq_none (by rw [he.1]; exact List.getElem?_eq_none_iff.1 hi)]; rfl
    | some z =>
      have hlt : i < s.length := (List.getElem?_eq_some_iff.1 hi).1
      have hee := List.getElem?_eq_getElem (show i < es.length by rw [he.1]; exact hlt)
      obtain ⟨h1, _⟩ := he.2 i _ z hee hi
      rw [hee, h1]; rfl
  subst hes
  rw [cellsOf_map1 wv (fun _ => rfl)] at hcells hcl
  have hone : ∀ u ∈ s.map wv, one1 u = true := by
    intro u hu
    obtain ⟨z, _, rfl⟩ := List.mem_map.1 hu
    rfl
  cases a with
  | some ad =>
    have hcell : ∀ j u, (s.map wv)[j]? = some u → w.cell? (ad.add j) = some u := by
      intro j u hu
      have hpos : 0 < s.length := by
        cases s with
        | nil => simp at hu
        | cons z s => simp
      obtain ⟨ad', h1, _, h2⟩ := hcells hpos
      cases h1
      exact h2 j u hu
    exact (g_app (s.map wv) ht hi rfl (by decide) hx hy hown.1 (by simp) hcell hone (by simp; omega) (by simp; omega) (Nat.le_refl _)).mono fun v' w' ⟨h1, h2⟩ => ⟨⟨by simpa using h1, hds⟩, hown.below h2 (Below.refl _ _) (Nat.le_refl _)⟩
  | none =>
    have h0 : s = [] := by
      cases s with
      | nil => rfl
      | cons z s => obtain ⟨ad, h1, _⟩ := hcells (by simp); cases h1
    subst h0
    refine (g_app0 ht hi hx hy hown.1).gv.mono fun v' w' ⟨h1, h2⟩ => ?_
    subst h1; subst h2
    exact ⟨hown, Below.refl _ _⟩
end
end Go.Kx
namespace Go.Proofs.YtccmemilofoamaaGreat
open Go Go.Kx Go.RowKit

theorem E_law01_Own : Ent Tryz.prog 112 := ent_of Tryz.func112 (by kernel_rfl) rfl
theorem law01_Own_c {S : Nat → Prop} {w : World} {v : Value} {a : ZV} (up : Up S w) (h : eZ.R S w v a) (hl : a.w.length ≤ 1000000000) : CR Tryz.prog 112 #[v] w (eZ.at S a) := by
  obtain ⟨s, rfl, hs⟩ := h
  refine enter Tryz.func112 rfl Tryz.ntmps112 rfl ?_
  refine .seq (.region (.box rfl rfl fun w1 b1 n1 => .alloc rfl zero_Z fun w2 b2 n2 => .nil ?_))
  obtain ⟨e1, k1, hb1, hs1⟩ := n1
  obtain ⟨e2, k2, hb2, hs2⟩ := n2
  have x2 := e1.trans e2
  have k1 := k1.ext e2
  have hS2 : ¬ Sx S w.heap.size w2.heap.size b2 := Sx.no (by omega) (by omega)
  have up2 : Up (Sx S w.heap.size w2.heap.size) w2 := Sx.up up (Nat.le_refl _) x2.size
  have hs2' := (ER.par eW hs w2.heap.size).ext x2
  have hout : ∀ {W : World} {v : Value} {z : ZV}, eZ.R (Sx S w.heap.size w2.heap.size) W v z → eZ.R S W v z := fun h => h.out
  generalize hT : Sx S w.heap.size w2.heap.size = T at *
  refine .seq ?_
  refine .par follows 6 [.inl _, .inl (.bool a.neg), .inl _, .inl s, .inr (eW.at T a.w), .inr (eZ.at T a)] [[], [(3, 0)], [], [(5, 2)], [(6, 3)], [(4, 1), (7, 4)]] (by kernel_rfl) ⟨
    fun w e => (v_fa fld_Z0 rfl).ob, fun w e => (v_ld ty_bool rfl (k1.ext e) rfl).ob, fun w e => (v_fa fld_Z1 rfl).ob, fun w e => (v_ld ty_W rfl (k1.ext e) rfl).ob,
    fun w e => Gv.ob ((g_appWs un_W info_u32 rfl rfl (ER.ext eW hs2' e) (by omega)).mono fun v' w' ⟨h1, h2⟩ => ⟨h2, h1.toR (S := T) (fun k hk => up2 k (by have := e.size; omega))⟩) (st_at _ _ _),
    fun w e x hx => by
      obtain ⟨p, c, hv, _⟩ := RL.len hx
      have hz : eZ.R T w (.agg #[.bool a.neg, x]) a := ⟨x, rfl, hx⟩
      generalize a.w.length = nl at hv
      subst hv
      exact ob_vl (v_bld [(0, .bool a.neg), (1, .slice p nl c)] rfl bld_Z2) hz (st_at _ _ _), trivial⟩ ?_
  rintro w3 e3 x - z hz
  refine .storeA (E := eZ) ty_Z rfl rfl (k2.ext e3) rfl rfl hz hS2 fun w5 k5 u5 h5 => .nil (.ret ?_)
  exact .cell Tryz.results112 rfl ty_Z rfl rfl k5 h5 ⟨u5.below (x2.trans e3) (by omega), hout h5⟩

theorem E_law02_Own : Ent Tryz.prog 62 := ent_of Tryz.func62 (by kernel_rfl) rfl
theorem law02_Own_c {S : Nat → Prop} {w : World} {v : Value} {q : QV} (up : Up S w) (h : eQ.R S w v q) (hl : qok 1000000000 q) : CR Tryz.prog 62 #[v] w (eQ.at S q) := by
  obtain ⟨s, t, rfl, hn, hd⟩ := eQ_parts h
  refine enter Tryz.func62 rfl Tryz.ntmps62 rfl ?_
  refine .seq (.region (.box rfl rfl fun w1 b1 n1 => .alloc rfl zero_Q fun w2 b2 n2 => .nil ?_))
  obtain ⟨e1, k1, hb1, hs1⟩ := n1
  obtain ⟨e2, k2, hb2, hs2⟩ := n2
  have x2 := e1.trans e2
  have k1 := k1.ext e2
  have hS2 : ¬ Sx S w.heap.size w2.heap.size b2 := Sx.no (by omega) (by omega)
  have up2 : Up (Sx S w.heap.size w2.heap.size) w2 := Sx.up up (Nat.le_refl _) x2.size
  have hn2 := (ER.par eZ hn w2.heap.size).ext x2
  have hd2 := (ER.par eZ hd w2.heap.size).ext x2
  have hout : ∀ {W : World} {v : Value} {z : QV}, eQ.R (Sx S w.heap.size w2.heap.size) W v z → eQ.R S W v z := fun h => h.out
  generalize hT : Sx S w.heap.size w2.heap.size = T at *
  refine .seq ?_
  refine .par follows 7 [.inl _, .inl (.agg #[.bool q.num.neg, s]), .inr (eZ.at T q.num), .inl _, .inl (.agg #[.bool q.den.neg, t]), .inr (eZ.at T q.den), .inr (eQ.at T q)] [[], [(3, 0)], [(4, 1)], [], [(6, 3)], [(7, 4)], [(5, 2), (8, 5)]] (by kernel_rfl) ⟨
    fun w e => (v_fa fld_Q0 rfl).ob, fun w e => (v_ldN [.bool q.num.neg, s] ty_Z rfl (k1.ext e) two_on).ob,
    fun w e => (g_call _ E_law01_Own rfl (law01_Own_c (up2.ext e.size) (ER.ext eZ hn2 e) hl.1)).ob (st_at _ _ _),
    fun w e => (v_fa fld_Q1 rfl).ob, fun w e => (v_ldN [.bool q.den.neg, t] ty_Z rfl (k1.ext e) two_off).ob,
    fun w e => (g_call _ E_law01_Own rfl (law01_Own_c (up2.ext e.size) (ER.ext eZ hd2 e) hl.2)).ob (st_at _ _ _),
    fun w e x hx y hy => by
      obtain ⟨sx, rfl, hsx⟩ := hx
      obtain ⟨sy, rfl, hsy⟩ := hy
      exact ob_vl (v_bld [(0, .agg #[.bool q.num.neg, sx]), (1, .agg #[.bool q.den.neg, sy])] rfl bld_Q2) ⟨sx, sy, rfl, hsx, hsy⟩ (st_at _ _ _), trivial⟩ ?_
  rintro w3 e3 x - y - z hz
  refine .storeA (E := eQ) ty_Q rfl rfl (k2.ext e3) rfl rfl hz hS2 fun w5 k5 u5 h5 => .nil (.ret ?_)
  exact .cell Tryz.results62 rfl ty_Q rfl rfl k5 h5 ⟨u5.below (x2.trans e3) (by omega), hout h5⟩
end Go.Proofs.YtccmemilofoamaaGreat

namespace Go.Kx
theorem range_getD {α : Type} (l : List α) (z : α) : (List.range l.length).map (fun i => l.getD i z) = l := by
  apply List.ext_getElem?
  intro i
  by_cases h : i < l.length
  · simp [h, List.getD_eq_getElem?_getD]
  · rw [List.getElem?_eq_none (by simp; omega), List.getElem?_eq_none (by omega)]
end Go.Kx
namespace Go.Proofs.YtccmemilofoamaaGreat
open Go Go.Kx Go.RowKit

theorem E_law03_Own : Ent Tryz.prog 15 := ent_of Tryz.func15 (by kernel_rfl) rfl
theorem law03_Own_c {S : Nat → Prop} {w : World} {v : Value} {a : List QV} (up : Up S w) (h : eV.R S w v a) (hl : ∀ q ∈ a, qok 1000000000 q) (hll : a.length ≤ 1000000) : CR Tryz.prog 15 #[v] w (eV.at S a) := by
  have hA : ∀ {W : World}, Below w.heap.size w W → eV.R (fun k => S k ∧ k < w.heap.size) W v a := fun hB => eV.keep (fun k c t f hk h => (hB.block k hk.2).trans h) (ER.lt eV h)
  refine enter Tryz.func15 rfl Tryz.ntmps15 rfl ?_
  refine .seq (.region (.asg rfl rfl (.nil (.seq (.region (.asg rfl rfl (.nil (.seq (.seq (.region (.asg rfl rfl (.nil ?_))))))))))))
  refine .block (.loop (α := Nat × Value) (fun y => [(0, v), (3, y.2), (4, .int .i64 (y.1 : Nat))]) (fun y W => Below w.heap.size w W ∧ y.1 ≤ a.length ∧ OwnL eQ 37 w.heap.size S W y.2 ((List.range y.1).map fun i => a.getD i q0)) (fun y => a.length - y.1) (0, .slice none 0 0) ?_ ?_ ?_)
  · exact look_cons rfl (look_cons rfl (look_cons rfl look_nil))
  · exact ⟨Below.refl _ _, Nat.zero_le _, OwnL.nil⟩
  · rintro ⟨i, u⟩ W ⟨hB, hi, ho⟩
    replace hB : Below w.heap.size w W := hB
    replace hi : i ≤ a.length := hi
    replace ho : OwnL eQ 37 w.heap.size S W u ((List.range i).map fun i => a.getD i q0) := ho
    refine .weak [(0, v), (3, u), (4, .int .i64 (i : Nat))] (fun t v h => h) ?_
    have hsz := hB.size
    refine .seq (.seq (.region (.mv rfl rfl (.mv rfl rfl (.lenR un_V rfl rfl (hA hB) ?_)))))
    by_cases hlt : i < a.length
    · refine .lssT rfl rfl rfl (by omega) (.nil (.condT rfl (.skip (.seq (.block (.region (.mv rfl rfl (.mv rfl rfl (.mv rfl rfl ?_)))))))))
      refine .ixN (i := i) un_V ty_Q rfl rfl (hA hB) rfl (getD_get' (z := q0) hlt) fun p hp => .ldE ty_Q rfl rfl hp fun e he => ?_
      obtain ⟨es, ho1, ho2⟩ := id ho
      have hTu : ∀ k', S k' ∧ k' < w.heap.size → S k' ∧ u.ownBlock ≠ some k' := fun k' hk' => ⟨hk'.1, fun h => by have := (ho1.lt k' h).1; have := hk'.2; omega⟩
      refine .call _ rfl E_law02_Own rfl (law02_Own_c (S := fun k => S k ∧ u.ownBlock ≠ some k) (fun k hk => ⟨up k (by omega), fun h => by have := (ho1.lt k h).2; omega⟩) (eQ.mono (fun k _ h => hTu k h) he) (mem_getD (P := qok 1000000000) hl ⟨by simp [q0], by simp [q0]⟩ i)) fun v2 W2 e2 h2 => ?_
      have hr' := h2
      obtain ⟨s, t, rfl, _, _⟩ := hr'
      refine .bsl _ rfl rfl bsl_V1 fun W3 b3 n3 => ?_
      obtain ⟨e3, k3, hb3, hs3⟩ := n3
      have e23 := e2.trans e3
      have hB3 : Below w.heap.size w W3 := hB.trans (e23.mono hsz)
      refine .gv rfl rfl (g_appL (E := eQ) (base := w.heap.size) (by decide) un_V info_Q rfl rfl rfl (ho.ext e23) k3 (h2.ext e3) (by simp; omega) (by decide) hB3.size) ?_
      rintro v4 W4 ⟨ho4, hg4⟩
      refine .asg rfl rfl (.nil (.region (.mv rfl rfl (.add rfl rfl rfl (.asg rfl rfl (.nil ?_))))))
      rw [wI (by omega)]
      refine ⟨rfl, (i + 1, v4), look_cons rfl (look_cons rfl (look_cons rfl look_nil)), ⟨(ho.ext e23).below hg4 hB3 hB3.size, hlt, ?_⟩, by show a.length - (i + 1) < a.length - i; omega⟩
      show OwnL eQ 37 w.heap.size S W4 v4 ((List.range (i + 1)).map fun i => a.getD i q0)
      rw [List.range_succ, List.map_append]
      exact ho4
    · refine .lssF rfl rfl rfl (by omega) (.nil (.condF rfl (.exit (.seq (.region (.mv rfl rfl (.asg rfl rfl (.nil (.ret ?_)))))))))
      have : i = a.length := by omega
      subst this
      rw [range_getD] at ho
      exact .plain [_] Tryz.results15 ⟨rfl, trivial⟩ ⟨hB, ho.toR up (fun _ h => h)⟩

theorem E_law04_Own : Ent Tryz.prog 13 := ent_of Tryz.func13 (by kernel_rfl) rfl
theorem law04_Own_c {S : Nat → Prop} {w : World} {v : Value} {m : List (List QV)} (up : Up S w) (h : eM.R S w v m) (hl : ∀ r ∈ m, ∀ q ∈ r, qok 1000000000 q) (hll : m.length ≤ 1000000) (hlc : colsOf m ≤ 1000000) : CR Tryz.prog 13 #[v] w (eM.at S m) := by
  have hA : ∀ {W : World}, Below w.heap.size w W → eM.R (fun k => S k ∧ k < w.heap.size) W v m := fun hB => eM.keep (fun k c t f hk h => (hB.block k hk.2).trans h) (ER.lt eM h)
  refine enter Tryz.func13 rfl Tryz.ntmps13 rfl ?_
  refine .seq (.region (.asg rfl rfl (.nil (.seq (.region (.asg rfl rfl (.nil (.seq (.seq (.region (.asg rfl rfl (.nil ?_))))))))))))
  refine .block (.loop (α := Nat × Value) (fun y => [(0, v), (3, y.2), (4, .int .i64 (y.1 : Nat))]) (fun y W => Below w.heap.size w W ∧ y.1 ≤ m.length ∧ OwnL eV 23 w.heap.size S W y.2 ((List.range y.1).map fun i => m.getD i [])) (fun y => m.length - y.1) (0, .slice none 0 0) ?_ ?_ ?_)
  · exact look_cons rfl (look_cons rfl (look_cons rfl look_nil))
  · exact ⟨Below.refl _ _, Nat.zero_le _, OwnL.nil⟩
  · rintro ⟨i, u⟩ W ⟨hB, hi, ho⟩
    replace hB : Below w.heap.size w W := hB
    replace hi : i ≤ m.length := hi
    replace ho : OwnL eV 23 w.heap.size S W u ((List.range i).map fun i => m.getD i []) := ho
    refine .weak [(0, v), (3, u), (4, .int .i64 (i : Nat))] (fun t v h => h) ?_
    have hsz := hB.size
    refine .seq (.seq (.region (.mv rfl rfl (.mv rfl rfl (.lenR un_M rfl rfl (hA hB) ?_)))))
    by_cases hlt : i < m.length
    · refine .lssT rfl rfl rfl (by omega) (.nil (.condT rfl (.skip (.seq (.block (.region (.mv rfl rfl (.mv rfl rfl (.mv rfl rfl ?_)))))))))
      refine .ixN (i := i) un_M ty_V rfl rfl (hA hB) rfl (getD_get' (z := []) hlt) fun p hp => .ldE ty_V rfl rfl hp fun e he => ?_
      obtain ⟨es, ho1, ho2⟩ := id ho
      have hTu : ∀ k', S k' ∧ k' < w.heap.size → S k' ∧ u.ownBlock ≠ some k' := fun k' hk' => ⟨hk'.1, fun h => by have := (ho1.lt k' h).1; have := hk'.2; omega⟩
      refine .call _ rfl E_law03_Own rfl (law03_Own_c (S := fun k => S k ∧ u.ownBlock ≠ some k) (fun k hk => ⟨up k (by omega), fun h => by have := (ho1.lt k h).2; omega⟩) (eV.mono (fun k _ h => hTu k h) he) (mem_getD (P := fun r => ∀ q ∈ r, qok 1000000000 q) hl (fun q hq => by cases hq) i) (Nat.le_trans (colsOf_get m i) hlc)) fun v2 W2 e2 h2 => ?_
      obtain ⟨ar, cr, hvr, _⟩ := RL.len h2
      generalize hnr : (m.getD i []).length = nr at hvr
      subst hvr
      refine .bsl _ rfl rfl bsl_M1 fun W3 b3 n3 => ?_
      obtain ⟨e3, k3, hb3, hs3⟩ := n3
      have e23 := e2.trans e3
      have hB3 : Below w.heap.size w W3 := hB.trans (e23.mono hsz)
      refine .gv rfl rfl (g_appL (E := eV) (base := w.heap.size) (n := m.getD i []) (e := .slice ar nr cr) (by decide) un_M info_V rfl rfl rfl (ho.ext e23) k3 (h2.ext e3) (by simp; omega) (by decide) hB3.size) ?_
      rintro v4 W4 ⟨ho4, hg4⟩
      refine .asg rfl rfl (.nil (.region (.mv rfl rfl (.add rfl rfl rfl (.asg rfl rfl (.nil ?_))))))
      rw [wI (by omega)]
      refine ⟨rfl, (i + 1, v4), look_cons rfl (look_cons rfl (look_cons rfl look_nil)), ⟨(ho.ext e23).below hg4 hB3 hB3.size, hlt, ?_⟩, by show m.length - (i + 1) < m.length - i; omega⟩
      show OwnL eV 23 w.heap.size S W4 v4 ((List.range (i + 1)).map fun i => m.getD i [])
      rw [List.range_succ, List.map_append]
      exact ho4
    · refine .lssF rfl rfl rfl (by omega) (.nil (.condF rfl (.exit (.seq (.region (.mv rfl rfl (.asg rfl rfl (.nil (.ret ?_)))))))))
      have : i = m.length := by omega
      subst this
      rw [range_getD] at ho
      exact .plain [_] Tryz.results13 ⟨rfl, trivial⟩ ⟨hB, ho.toR up (fun _ h => h)⟩
end Go.Proofs.YtccmemilofoamaaGreat

namespace Go.Kx
open Go Go.RowKit
end Go.Kx
namespace Go.Proofs.YtccmemilofoamaaGreat
open Go Go.Kx Go.RowKit
structure MR (W : World) (v : Value) (n c L : Nat) (m : List (List QV)) : Prop where
  r : eM.R (fun _ => True) W v m
  hn : m.length ≤ n
  hc : colsOf m ≤ c
  hk : mk_ L m
structure VR (W : World) (v : Value) (n L : Nat) (a : List QV) : Prop where
  r : eV.R (fun _ => True) W v a
  hn : a.length ≤ n
  hk : vk L a
section
variable {W W' : World} {v va vb : Value} {n c n' c' L L' : Nat} {a b m : List (List QV)} {x y : List QV}
theorem MR.ext (h : MR W v n c L m) (e : Ext W W') : MR W' v n c L m := ⟨h.r.ext e, h.hn, h.hc, h.hk⟩
theorem VR.ext (h : VR W v n L x) (e : Ext W W') : VR W' v n L x := ⟨h.r.ext e, h.hn, h.hk⟩
theorem upT {W : World} : Up (fun _ => True) W := fun _ _ => trivial
end
/-- a matrix that is not long -/
theorem okM.mr {W : World} {v : Value} {m : List (List QV)} (h : okM m) (hr : eM.R (fun _ => True) W v m) : MR W v 8 8 6 m :=
  ⟨hr, h.1, h.2.1, eM_mk hr (fun r hr => (h.2.2 r hr).2) (by decide)⟩
theorem okV.vr {W : World} {v : Value} {a : List QV} (h : okV a) (hr : eV.R (fun _ => True) W v a) : VR W v 20 6 a := ⟨hr, h.1, eV_vk hr h.2 (by decide)⟩
end Go.Proofs.YtccmemilofoamaaGreat

namespace Go.Proofs.YtccmemilofoamaaGreat
open Go Go.Kx Go.RowKit

theorem bsl_M2 {a a' : Option Addr} {n c n' c' : Nat} : bslOf Tryz.prog 22 2 [(0, .slice a n c), (1, .slice a' n' c')] = some (23, #[.slice a n c, .slice a' n' c']) := by kernel_rfl
/-- slices just laid in a row -/
theorem eS_new {α : Type} {E : ER α} {hsz : 0 < E.sz} {S : Nat → Prop} {w w' : World} {b : Nat} {t : TypeId} {cs : Array Value} {n : Nat} (vs : List Value) (ls : List (List α)) (hn : New w w' b t cs) (up : Up S w) (hcs : cs = vs.toArray) (hl : ls.length = n) (hm : n ≤ 1000) (h : Els (RL E hsz) S w vs ls) :
    (RL (RL E hsz) (show 0 < 1 by decide)).R S w' (.slice (some ⟨b, 0, none⟩) n n) ls := by
  subst hl
  refine RL.ofBlk (es := vs) hn.2.1 (up b (by have := hn.2.2.1; omega)) (h.ext hn.1) (fun j u hu => ?_) (Nat.le_refl _) (by omega)
  rw [hcs]
  have hv : ∀ v ∈ vs, v.cells = #[v] := by
    intro v hv
    obtain ⟨i, hi⟩ := List.mem_iff_getElem?.1 hv
    have hlt := mem_lt hi
    obtain ⟨a, c, rfl, _⟩ := RL.len (h.2 i v _ hi (List.getElem?_eq_getElem (by rw [← h.1]; exact hlt)))
    rfl
  have : cellsOf vs = vs := by
    clear h hcs hu
    induction vs with
    | nil => rfl
    | cons v vs ih => rw [cellsOf, List.flatMap_cons, hv v (by simp), ← cellsOf, ih fun u hu => hv u (by simp [hu])]; rfl
  rw [this] at hu
  simpa using hu

end Go.Proofs.YtccmemilofoamaaGreat

namespace Go.Proofs.YtccmemilofoamaaGreat
open Go Go.Kx Go.RowKit

theorem E_law05_tall : Ent Tryz.prog 55 := ent_of Tryz.func55 (by kernel_rfl) rfl
theorem law05_tall_c {S : Nat → Prop} {w : World} {v : Value} {l : List (List QV)} (h : eM.R S w v l) : CR Tryz.prog 55 #[v] w (Lng (∀ r ∈ l, ∀ q ∈ r, qok 2 q)) := by
  obtain ⟨_, _, _, _, hl⟩ := RL.len h
  refine enter Tryz.func55 rfl Tryz.ntmps55 rfl ?_
  refine .seq (.region (.asg rfl rfl (.nil (.seq (.seq (.region (.asg rfl rfl (.nil ?_))))))))
  refine .block (.loop (α := Nat) (fun i => [(0, v), (3, .int .i64 (i : Nat))]) (fun i W => W = w ∧ i ≤ l.length ∧ ∀ j r, j < i → l[j]? = some r → ∀ q ∈ r, qok 2 q) (fun i => l.length - i) 0 ?_ ?_ ?_)
  · exact look_cons rfl (look_cons rfl look_nil)
  · exact ⟨rfl, Nat.zero_le _, fun j r hj => absurd hj (Nat.not_lt_zero _)⟩
  rintro i W ⟨rfl, hi, hall⟩
  refine .seq (.seq (.region (.mv rfl rfl (.mv rfl rfl (.lenR un_M rfl rfl h ?_)))))
  rcases Nat.lt_or_ge i l.length with hlt | hge
  rotate_left
  · refine .lssF rfl rfl rfl (by omega) (.nil (.condF rfl (.exit (.seq (.region (.asg rfl rfl (.nil (.ret ?_))))))))
    refine .plain [_] Tryz.results55 ⟨rfl, trivial⟩ ⟨.refl _, false, rfl, fun _ r hr => ?_⟩
    obtain ⟨j, hj⟩ := List.mem_iff_getElem?.1 hr
    exact hall j r (by have := mem_lt hj; omega) hj
  have hyy := List.getElem?_eq_getElem hlt
  generalize l[i] = r at hyy
  have hrl : r.length ≤ 9223372036854775807 := eM_le h hyy
  refine .lssT rfl rfl rfl (by omega) (.nil (.condT rfl (.skip (.seq (.block (.seq (.region (.asg rfl rfl (.nil ?_)))))))))
  refine .block (.loop (α := Nat) (fun k => [(0, v), (3, .int .i64 (i : Nat)), (4, .int .i64 (k : Nat))]) (fun k W' => W' = W ∧ k ≤ r.length ∧ ∀ j q, j < k → r[j]? = some q → qok 2 q) (fun k => r.length - k) 0 ?_ ?_ ?_)
  · exact look_cons rfl (look_cons rfl (look_cons rfl look_nil))
  · exact ⟨rfl, Nat.zero_le _, fun j r hj => absurd hj (Nat.not_lt_zero _)⟩
  rintro k W' ⟨rfl, hk, hall2⟩
  refine .seq (.seq (.region (.mv rfl rfl (.mv rfl rfl (.mv rfl rfl ?_)))))
  refine .ixN (i := i) un_M ty_V rfl rfl h rfl hyy fun p hp => .ldE ty_V rfl rfl hp fun e he => .lenR un_V rfl rfl he ?_
  rcases Nat.lt_or_ge k r.length with hlk | hgk
  rotate_left
  · refine .lssF rfl rfl rfl (by omega) (.nil (.condF rfl (.exit (.region (.mv rfl rfl (.add rfl rfl rfl (.asg rfl rfl (.nil ?_))))))))
    rw [wI (by omega)]
    refine ⟨rfl, i + 1, look_cons rfl (look_cons rfl look_nil), ⟨rfl, hlt, fun j r' hj hr' => ?_⟩, by show l.length - (i + 1) < l.length - i; omega⟩
    by_cases e : j = i
    · subst e; rw [hyy] at hr'; cases hr'
      intro q hq
      obtain ⟨j, hj⟩ := List.mem_iff_getElem?.1 hq
      exact hall2 j q (by have := mem_lt hj; omega) hj
    · exact hall j r' (by omega) hr'
  have hzz := List.getElem?_eq_getElem hlk
  generalize r[k] = q at hzz
  refine .lssT rfl rfl rfl (by omega) (.nil (.condT rfl (.skip (.seq (.block (.seq (.region (.mv rfl rfl (.mv rfl rfl ?_)))))))))
  refine .ixN (i := i) un_M ty_V rfl rfl h rfl hyy fun p2 hp2 => .ldE ty_V rfl rfl hp2 fun e2 he2 => .mv rfl rfl ?_
  refine .ixN (i := k) un_V ty_Q rfl rfl he2 rfl hzz fun p3 hp3 => .faP fld_Q0 rfl rfl (.faP fld_Z1 rfl rfl (.ldE (E := eW) ty_W rfl rfl hp3.qn.zw fun e3 he3 => .lenR un_W rfl rfl he3 ?_))
  have htrue : ∀ {σ : Env}, Kx.look σ 2 = some (.bool true) → Leave Tryz.prog Tryz.f55 44 (fun v w' => Ext W' w' ∧ Lng (∀ r ∈ l, ∀ q ∈ r, qok 2 q) v w') σ [] W' := by
    intro σ hl
    exact .plain [_] Tryz.results55 ⟨hl, trivial⟩ ⟨.refl _, true, rfl, fun h => by cases h⟩
  by_cases hn : q.num.w.length ≤ 2
  · refine .gtrF rfl rfl rfl (by omega) (.mv rfl rfl (.gr rfl rfl rfl rfl (.mv rfl rfl (.gr rfl rfl rfl rfl (.mv rfl rfl (.gr rfl rfl rfl rfl ?_))))))
    refine .ixN (i := i) un_M ty_V rfl rfl h rfl hyy fun p4 hp4 => .gr rfl rfl rfl rfl (.ldE ty_V rfl rfl hp4 fun e4 he4 => .gr rfl rfl rfl rfl (.mv rfl rfl (.gr rfl rfl rfl rfl ?_)))
    refine .ixN (i := k) un_V ty_Q rfl rfl he4 rfl hzz fun p5 hp5 => .gr rfl rfl rfl rfl (.faP fld_Q1 rfl rfl (.gr rfl rfl rfl rfl (.faP fld_Z1 rfl rfl (.gr rfl rfl rfl rfl (.ldE (E := eW) ty_W rfl rfl hp5.qd.zw fun e5 he5 => .gr rfl rfl rfl rfl (.lenR un_W rfl rfl he5 (.gr rfl rfl rfl rfl ?_)))))))
    by_cases hd : q.den.w.length ≤ 2
    · refine .gtrF rfl rfl rfl (by omega) (.pick rfl rfl rfl (.nil (.condF rfl (.skip (.region (.mv rfl rfl (.add rfl rfl rfl (.asg rfl rfl (.nil ?_)))))))))
      rw [wI (by omega)]
      refine ⟨rfl, k + 1, look_cons rfl (look_cons rfl (look_cons rfl look_nil)), ⟨rfl, hlk, fun j q' hj hq' => ?_⟩, by show r.length - (k + 1) < r.length - k; omega⟩
      by_cases e : j = k
      · subst e; rw [hzz] at hq'; cases hq'; exact ⟨hn, hd⟩
      · exact hall2 j q' (by omega) hq'
    · exact .gtrT rfl rfl rfl (by omega) (.pick rfl rfl rfl (.nil (.condT rfl (.seq (.region (.asg rfl rfl (.nil (.ret (htrue rfl)))))))))
  · refine .gtrT rfl rfl rfl (by omega) (.mv rfl rfl (.gs rfl rfl rfl rfl rfl (.gs rfl rfl rfl rfl rfl (.gs rfl rfl rfl rfl rfl (.gs rfl rfl rfl rfl rfl (.gs rfl rfl rfl rfl rfl (.gs rfl rfl rfl rfl rfl (.gs rfl rfl rfl rfl rfl (.gs rfl rfl rfl rfl rfl (.gs rfl rfl rfl rfl rfl (.gs rfl rfl rfl rfl rfl (.gs rfl rfl rfl rfl rfl ?_))))))))))))
    exact .pick rfl rfl rfl (.nil (.condT rfl (.seq (.region (.asg rfl rfl (.nil (.ret (htrue rfl))))))))

theorem bsl_MM1 {a : Option Addr} {n c : Nat} : bslOf Tryz.prog 113 1 [(0, .slice a n c)] = some (22, #[.slice a n c]) := by kernel_rfl
/-- what the laws of chapter 5 speak of -/
structure okM5 (m : List (List QV)) : Prop where
  rows : m.length ≤ 6
  cols : colsOf m ≤ 6
  q : ∀ r ∈ m, ∀ q ∈ r, qok 2 q
structure okV5 (b : List QV) : Prop where
  len : b.length ≤ 8
  q : ∀ q ∈ b, qok 2 q
theorem E_law05_long : Ent Tryz.prog 11 := ent_of Tryz.func11 (by kernel_rfl) rfl
theorem law05_long_c {w : World} {vm vl : Value} {m : List (List QV)} {l : List (List QV)} (hm : eM.R (fun _ => True) w vm m) (hl : eM.R (fun _ => True) w vl l) :
    CR Tryz.prog 11 #[vm, vl] w (Lng (okM5 m ∧ ∀ b ∈ l, okV5 b)) := by
  obtain ⟨am, cm, hvm, _, hml⟩ := RL.len hm
  obtain ⟨_, _, _, _, hll⟩ := RL.len hl
  refine enter Tryz.func11 rfl Tryz.ntmps11 rfl ?_
  have htrue : ∀ {σ : Env} {W : World}, Ext w W → Kx.look σ 4 = some (.bool true) → Leave Tryz.prog Tryz.f11 41 (fun v w' => Ext w w' ∧ Lng (okM5 m ∧ ∀ b ∈ l, okV5 b) v w') σ [] W := by
    intro σ W hW hl
    exact .plain [_] Tryz.results11 ⟨hl, trivial⟩ ⟨hW, true, rfl, fun h => by cases h⟩
  refine .seq (.region (.asg rfl rfl (.nil ?_)))
  refine .mid (α := Unit) (fun _ => [(0, vm), (1, vl), (4, .bool false)]) (fun _ W => Ext w W ∧ m.length ≤ 6 ∧ colsOf m ≤ 6) ?_ ?_
  · refine .seq (.region (.mv rfl rfl (.bsl [(0, vm)] rfl rfl (by rw [hvm]; exact bsl_MM1) fun w1 b1 n1 => ?_)))
    have hmm : eMM.R (fun _ => True) w1 (.slice (some ⟨b1, 0, none⟩) 1 1) [m] := eS_new [vm] [m] n1 upT (by rw [hvm]) rfl (by decide) (Els.snoc Els.nil hm)
    refine .call _ rfl E_law04_Long rfl (law04_Long_c upT hmm) fun v2 w2 e2 h2 => .mv rfl rfl ?_
    obtain ⟨bb, rfl, _⟩ := h2
    have x2 := n1.1.trans e2
    cases bb with
    | true =>
      refine .gs rfl rfl rfl rfl rfl (.gs rfl rfl rfl rfl rfl (.gs rfl rfl rfl rfl rfl (.pick rfl rfl rfl (.mv rfl rfl (.gs rfl rfl rfl rfl rfl (.gs rfl rfl rfl rfl rfl (.gs rfl rfl rfl rfl rfl (.pick rfl rfl rfl (.mv rfl rfl (.gs rfl rfl rfl rfl rfl (.gs rfl rfl rfl rfl rfl (.pick rfl rfl rfl (.nil (.condT rfl (.seq (.region (.asg rfl rfl (.nil (.ret ?_)))))))))))))))))))
      exact htrue x2 rfl
    | false =>
    refine .gr rfl rfl rfl rfl (.mv rfl rfl (.gr rfl rfl rfl rfl (.lenR un_M rfl rfl (hm.ext x2) (.gr rfl rfl rfl rfl ?_))))
    by_cases h6 : m.length ≤ 6
    rotate_left
    · refine .gtrT rfl rfl rfl (by omega) (.pick rfl rfl rfl (.mv rfl rfl (.gs rfl rfl rfl rfl rfl (.gs rfl rfl rfl rfl rfl (.gs rfl rfl rfl rfl rfl (.pick rfl rfl rfl (.mv rfl rfl (.gs rfl rfl rfl rfl rfl (.gs rfl rfl rfl rfl rfl (.pick rfl rfl rfl (.nil (.condT rfl (.seq (.region (.asg rfl rfl (.nil (.ret ?_)))))))))))))))))
      exact htrue x2 rfl
    refine .gtrF rfl rfl rfl (by omega) (.pick rfl rfl rfl (.mv rfl rfl (.gr rfl rfl rfl rfl (.mv rfl rfl (.gr rfl rfl rfl rfl ?_)))))
    refine .call _ rfl E_ref04_Cols rfl (ref04_Cols_c (hm.ext x2)) fun v3 w3 e3 h3 => .gr rfl rfl rfl rfl ?_
    subst h3
    have x3 := x2.trans e3
    by_cases hc6 : colsOf m ≤ 6
    rotate_left
    · refine .gtrT rfl rfl rfl (by omega) (.pick rfl rfl rfl (.mv rfl rfl (.gs rfl rfl rfl rfl rfl (.gs rfl rfl rfl rfl rfl (.pick rfl rfl rfl (.nil (.condT rfl (.seq (.region (.asg rfl rfl (.nil (.ret ?_))))))))))))
      exact htrue x3 rfl
    refine .gtrF rfl rfl rfl (by omega) (.pick rfl rfl rfl (.mv rfl rfl (.gr rfl rfl rfl rfl (.mv rfl rfl (.gr rfl rfl rfl rfl ?_)))))
    refine .call _ rfl E_law03_Long rfl (law03_Long_c upT (hl.ext x3)) fun v4 w4 e4 h4 => ?_
    obtain ⟨bb, rfl, _⟩ := h4
    cases bb with
    | true => exact .pick rfl rfl rfl (.nil (.condT rfl (.seq (.region (.asg rfl rfl (.nil (.ret (htrue (x3.trans e4) rfl))))))))
    | false =>
      refine .pick rfl rfl rfl (.nil (.condF rfl (.skip ?_)))
      exact ⟨rfl, (), look_cons rfl (look_cons rfl (look_cons rfl look_nil)), x3.trans e4, h6, hc6⟩
  rintro _ W1 ⟨x1, h6, hc6⟩
  refine .mid (α := Unit) (fun _ => [(0, vm), (1, vl)]) (fun _ W => W = W1 ∧ ∀ b ∈ l, b.length ≤ 8) ?_ ?_
  · refine .seq (.region (.asg rfl rfl (.nil ?_)))
    refine .block (.loop (α := Nat) (fun i => [(0, vm), (1, vl), (5, .int .i64 (i : Nat))]) (fun i W => W = W1 ∧ i ≤ l.length ∧ ∀ j r, j < i → l[j]? = some r → r.length ≤ 8) (fun i => l.length - i) 0 ?_ ?_ ?_)
    · exact look_cons rfl (look_cons rfl (look_cons rfl look_nil))
    · exact ⟨rfl, Nat.zero_le _, fun j r hj => absurd hj (Nat.not_lt_zero _)⟩
    rintro i W ⟨rfl, hi, hall⟩
    have hlW := hl.ext x1
    refine .seq (.seq (.region (.mv rfl rfl (.mv rfl rfl (.lenR un_M rfl rfl hlW ?_)))))
    rcases Nat.lt_or_ge i l.length with hlt | hge
    rotate_left
    · refine .lssF rfl rfl rfl (by omega) (.nil (.condF rfl (.exit ?_)))
      refine ⟨rfl, (), look_cons rfl (look_cons rfl look_nil), rfl, fun b hb => ?_⟩
      obtain ⟨j, hj⟩ := List.mem_iff_getElem?.1 hb
      exact hall j b (by have := mem_lt hj; omega) hj
    have hyy := List.getElem?_eq_getElem hlt
    generalize l[i] = r at hyy
    refine .lssT rfl rfl rfl (by omega) (.nil (.condT rfl (.skip (.seq (.block (.seq (.region (.mv rfl rfl (.mv rfl rfl ?_)))))))))
    refine .ixN (i := i) un_M ty_V rfl rfl hlW rfl hyy fun p hp => .ldE ty_V rfl rfl hp fun e he => .lenR un_V rfl rfl he ?_
    by_cases h8 : r.length ≤ 8
    · refine .gtrF rfl rfl rfl (by omega) (.nil (.condF rfl (.skip (.region (.mv rfl rfl (.add rfl rfl rfl (.asg rfl rfl (.nil ?_))))))))
      rw [wI (by omega)]
      refine ⟨rfl, i + 1, look_cons rfl (look_cons rfl (look_cons rfl look_nil)), ⟨rfl, hlt, fun j r' hj hr' => ?_⟩, by show l.length - (i + 1) < l.length - i; omega⟩
      by_cases e : j = i
      · subst e; rw [hyy] at hr'; cases hr'; exact h8
      · exact hall j r' (by omega) hr'
    · exact .gtrT rfl rfl rfl (by omega) (.nil (.condT rfl (.seq (.region (.asg rfl rfl (.nil (.ret (htrue x1 rfl))))))))
  rintro _ W ⟨rfl, hl8⟩
  refine .seq (.region (.mv rfl rfl ?_))
  refine .call _ rfl E_law05_tall rfl (law05_tall_c (hm.ext x1)) fun v2 w2 e2 h2 => .mv rfl rfl ?_
  obtain ⟨bb, rfl, ht⟩ := h2
  cases bb with
  | true =>
    refine .gs rfl rfl rfl rfl rfl (.gs rfl rfl rfl rfl rfl (.pick rfl rfl rfl (.asg rfl rfl (.nil (.ret ?_)))))
    exact .plain [_] Tryz.results11 ⟨rfl, trivial⟩ ⟨x1.trans e2, true, rfl, fun h => by cases h⟩
  | false =>
    refine .gr rfl rfl rfl rfl (.mv rfl rfl (.gr rfl rfl rfl rfl ?_))
    refine .call _ rfl E_law05_tall rfl (law05_tall_c ((hl.ext x1).ext e2)) fun v3 w3 e3 h3 => ?_
    obtain ⟨bb, rfl, ht2⟩ := h3
    refine .pick rfl rfl rfl (.asg rfl rfl (.nil (.ret ?_)))
    exact .plain [_] Tryz.results11 ⟨rfl, trivial⟩ ⟨(x1.trans e2).trans e3, bb, rfl, fun h => ⟨⟨h6, hc6, ht rfl⟩, fun b hb => ⟨hl8 b hb, ht2 h b hb⟩⟩⟩

/-- equality of lists of integers -/
theorem E_ref05_Ints : Ent Tryz.prog 27 := ent_of Tryz.func27 (by kernel_rfl) rfl
theorem ref05_Ints_c {S : Nat → Prop} {w : World} {va vb : Value} {a : List Int} (ha : eI.R S w va a) (hb : eI.R S w vb a) : CR Tryz.prog 27 #[va, vb] w (Is (.bool true)) := by
  obtain ⟨_, _, _, _, hl⟩ := RL.len ha
  refine enter Tryz.func27 rfl Tryz.ntmps27 rfl ?_
  refine .seq (.region (.asg rfl rfl (.nil (.seq (.seq (.region (.mv rfl rfl (.lenR un_I rfl rfl ha (.mv rfl rfl (.lenR un_I rfl rfl hb (.neqF rfl rfl rfl rfl (.nil (.condF rfl (.skip ?_))))))))))))) )
  refine .seq (.seq (.region (.asg rfl rfl (.nil ?_))))
  refine .block (.loop (α := Nat) (fun i => [(0, va), (1, vb), (5, .int .i64 (i : Nat))]) (fun i W => Ext w W ∧ i ≤ a.length) (fun i => a.length - i) 0 ?_ ?_ ?_)
  · exact look_cons rfl (look_cons rfl (look_cons rfl look_nil))
  · exact ⟨Ext.refl _, Nat.zero_le _⟩
  rintro i W ⟨hW, hi⟩
  have haW := ER.ext eI ha hW
  have hbW := ER.ext eI hb hW
  refine .seq (.seq (.region (.mv rfl rfl (.mv rfl rfl (.lenR un_I rfl rfl haW ?_)))))
  rcases Nat.lt_or_ge i a.length with hlt | hge
  rotate_left
  · refine .lssF rfl rfl rfl (by omega) (.nil (.condF rfl (.exit (.seq (.region (.asg rfl rfl (.nil (.ret ?_))))))))
    exact .plain [_] Tryz.results27 ⟨rfl, trivial⟩ ⟨hW, rfl⟩
  have hyy := List.getElem?_eq_getElem hlt
  generalize a[i] = r at hyy
  refine .lssT rfl rfl rfl (by omega) (.nil (.condT rfl (.skip (.seq (.block (.seq ?_))))))
  refine .par follows 8 [.inl va, .inl (.int .i64 (i : Nat)), .inr (Ptr (eInt .i64) S r), .inl (.int .i64 r), .inl vb, .inl (.int .i64 (i : Nat)), .inr (Ptr (eInt .i64) S r), .inl (.int .i64 r)] [[], [], [(17, 0), (18, 1)], [(19, 2)], [], [], [(21, 4), (22, 5)], [(23, 6)]] (by kernel_rfl) ⟨
    fun w e => (v_mv rfl).ob, fun w e => (v_mv rfl).ob, fun w e => ob_ixN (i := i) un_I ty_I1 rfl (ER.ext eI haW e) rfl hyy, fun w e p hp => ob_ldI ty_I1 rfl hp,
    fun w e => (v_mv rfl).ob, fun w e => (v_mv rfl).ob, fun w e => ob_ixN (i := i) un_I ty_I1 rfl (ER.ext eI hbW e) rfl hyy, fun w e p hp => ob_ldI ty_I1 rfl hp, trivial⟩ ?_
  intro W2 e2 x2 _ x6 _
  refine .neqF rfl rfl rfl rfl (.nil (.condF rfl (.skip (.region (.mv rfl rfl (.add rfl rfl rfl (.asg rfl rfl (.nil ?_))))))))
  rw [wI (by omega)]
  exact ⟨rfl, i + 1, look_cons rfl (look_cons rfl (look_cons rfl look_nil)), ⟨hW.trans e2, hlt⟩, by show a.length - (i + 1) < a.length - i; omega⟩

theorem E_ref02_Of : Ent Tryz.prog 58 := ent_of Tryz.func58 (by kernel_rfl) rfl
theorem ref02_Of_c {S : Nat → Prop} {w : World} {n d : Int} (up : Up S w) (hn : -9223372036854775808 ≤ n ∧ n ≤ 9223372036854775807) (hd : 0 < d ∧ d ≤ 9223372036854775807) : CR Tryz.prog 58 #[.int .i64 n, .int .i64 d] w (eQ.at S (qc (Rat.divInt n d))) := by
  refine enter Tryz.func58 rfl Tryz.ntmps58 rfl ?_
  refine .seq (.region (.alloc rfl zero_Q fun w1 b4 n1 => .nil (.seq (.region (.mv rfl rfl ?_)))))
  obtain ⟨e1, k4, hb4, hs1⟩ := n1
  have hS4 : ¬ Sx S w.heap.size w1.heap.size b4 := Sx.no (by omega) (by omega)
  have up1 : Up (Sx S w.heap.size w1.heap.size) w1 := Sx.up up (Nat.le_refl _) e1.size
  refine .call _ rfl E_ref01_From rfl (ref01_From_c up1 hn.1 hn.2) fun v2 w2 e2 h2 => .mv rfl rfl ?_
  refine .call _ rfl E_ref01_From rfl (ref01_From_c (up1.ext e2.size) (by omega) hd.2) fun v3 w3 e3 h3 => ?_
  obtain ⟨s, rfl, hs⟩ := ER.ext eZ h2 e3
  obtain ⟨t, rfl, ht⟩ := h3
  refine .bld _ rfl rfl bld_Q2 ?_
  have hq : eQ.R (Sx S w.heap.size w1.heap.size) w3 (.agg #[.bool (zc n).neg, s, .bool (zc d).neg, t]) ⟨zc n, zc d⟩ := ⟨s, t, rfl, hs, ht⟩
  have hok : qok 2 ⟨zc n, zc d⟩ := ⟨zc_len (by omega), zc_len (by omega)⟩
  have hv : qval ⟨zc n, zc d⟩ = Rat.divInt n d := by
    unfold qval pn pd
    simp only [zval_zc]
    rw [if_neg (by omega), if_neg (by omega), if_neg (by omega)]
  refine .call _ rfl E_ref02_Least rfl (ref02_Least_c (up1.ext (e2.trans e3).size) hq hok (by decide) (by decide)) fun v4 w4 e4 h4 => ?_
  rw [hv] at h4
  refine .storeA (E := eQ) ty_Q rfl rfl (((k4.ext e2).ext e3).ext e4) rfl rfl h4 hS4 fun w5 k5 u5 h5 => .nil (.ret ?_)
  exact .cell Tryz.results58 rfl ty_Q rfl rfl k5 h5 ⟨u5.below (((e1.trans e2).trans e3).trans e4) (by omega), h5.out⟩
end Go.Proofs.YtccmemilofoamaaGreat

namespace Go.Proofs.YtccmemilofoamaaGreat
open Go Go.Kx Go.RowKit
def cM (l : List (List Int)) : RM := fun i k => (((l.getD i []).getD k 0 : Int) : Rat)
theorem rm_ints (l : List (List Int)) : rm (intsM l) = cM l := by funext i k; exact rm_intsM l i k
abbrev l5m : List (List Int) := [[2, 4], [1, 3]]
abbrev l5s : List (List Int) := [[1, 2], [2, 4]]
theorem cols_m : colsOf (intsM l5m) = 2 := rfl
theorem cols_s : colsOf (intsM l5s) = 2 := rfl
theorem redP_s : redP (intsM l5s) = [0] := by
  unfold redP
  rw [rm_ints, cols_s, intsM_length]
  kernel_rfl
theorem redP_m : redP (intsM l5m) = [0, 1] := by
  unfold redP
  rw [rm_ints, cols_m, intsM_length]
  kernel_rfl
theorem redF_s (i k : Nat) : redF (intsM l5s) i k = (elim 2 (cM l5s) 2).1 i k := by
  unfold redF
  rw [rm_ints, cols_s, intsM_length]; rfl
theorem redM_s : redM (intsM l5s) = intsM [[1, 2]] := by
  unfold redM
  rw [redP_s, cols_s]
  have h0 : (elim 2 (cM l5s) 2).1 0 0 = (((([[1, 2]] : List (List Int)).getD 0 []).getD 0 0 : Int) : Rat) := by kernel_rfl
  have h1 : (elim 2 (cM l5s) 2).1 0 1 = (((([[1, 2]] : List (List Int)).getD 0 []).getD 1 0 : Int) : Rat) := by kernel_rfl
  refine tabM_ints rfl (fun i hi => ?_) (fun i k hi hk => ?_)
  · match i, hi with
    | 0, _ => rfl
  · rw [redF_s]
    match i, hi, k, hk with
    | 0, _, 0, _ => exact h0
    | 0, _, 1, _ => exact h1
theorem freeC_s : freeC (intsM l5s) = [1] := by unfold freeC; rw [redP_s, cols_s]; rfl
theorem freeC_m : freeC (intsM l5m) = [] := by unfold freeC; rw [redP_m, cols_m]; rfl
theorem null_s : nullM (intsM l5s) = intsM [[-2, 1]] := by
  unfold nullM
  rw [freeC_s, redP_s, cols_s]
  have h0 : nv (redF (intsM l5s)) [0] 1 0 = -2 := by
    unfold nv
    show (if (0 : Nat) = 1 then (1 : Rat) else 0) - (0 + (if [0].getD 0 0 = 0 then redF (intsM l5s) 0 1 else 0)) = -2
    rw [redF_s]
    kernel_rfl
  have h1 : nv (redF (intsM l5s)) [0] 1 1 = 1 := by
    unfold nv
    show (if (1 : Nat) = 1 then (1 : Rat) else 0) - (0 + (if [0].getD 0 0 = 1 then redF (intsM l5s) 0 1 else 0)) = 1
    rw [redF_s]
    kernel_rfl
  show [[qc (nv (redF (intsM l5s)) [0] 1 0), qc (nv (redF (intsM l5s)) [0] 1 1)]] = _
  rw [h0, h1]; rfl
theorem null_m : nullM (intsM l5m) = [] := by unfold nullM; rw [freeC_m]; rfl
/-- the augmented matrices -/
def cA (l : List (List Int)) (b : List Int) : RM := fun i k => if i < 2 ∧ k < 3 then (if k < 2 then cM l i k else ((b.getD i 0 : Int) : Rat)) else 0
theorem aug_ints {l : List (List Int)} {b : List Int} (hl : l.length = 2) (hb : b.length = 2) (hc : colsOf (intsM l) = 2) : (augM (intsM l) (intsV b)).length = 2 ∧ colsOf (augM (intsM l) (intsV b)) = 3 ∧ rm (augM (intsM l) (intsV b)) = cA l b := by
  have h1 : max (intsM l).length (intsV b).length = 2 := by rw [intsM_length, intsV_length, hl, hb]; rfl
  refine ⟨by rw [aug_len, h1], by rw [aug_cols, h1, hc]; rfl, ?_⟩
  funext i k
  unfold augM
  rw [rm_tabM, h1, hc]
  unfold cA augF
  rw [hc, rm_intsM, rv_intsV]; rfl
theorem red_aug {l : List (List Int)} {b : List Int} (hl : l.length = 2) (hb : b.length = 2) (hc : colsOf (intsM l) = 2) : redP (augM (intsM l) (intsV b)) = (elim 2 (cA l b) 3).2 ∧ redF (augM (intsM l) (intsV b)) = (elim 2 (cA l b) 3).1 := by
  obtain ⟨h1, h2, h3⟩ := aug_ints hl hb hc
  unfold redP redF
  rw [h1, h2, h3]
  exact ⟨rfl, rfl⟩
theorem solvable_1 : solvable (intsM l5m) (intsV [6, 4]) := by
  unfold solvable
  rw [(red_aug rfl rfl cols_m).1, cols_m, show (elim 2 (cA l5m [6, 4]) 3).2 = [0, 1] by kernel_rfl]; decide
theorem solvable_2 : ¬ solvable (intsM l5s) (intsV [1, 3]) := by
  unfold solvable
  rw [(red_aug rfl rfl cols_s).1, cols_s, show (elim 2 (cA l5s [1, 3]) 3).2 = [0, 2] by kernel_rfl]; decide
theorem solvable_3 : solvable (intsM l5s) (intsV [1, 2]) := by
  unfold solvable
  rw [(red_aug rfl rfl cols_s).1, cols_s, show (elim 2 (cA l5s [1, 2]) 3).2 = [0] by kernel_rfl]; decide
theorem solX_1 : solX (intsM l5m) (intsV [6, 4]) = intsV [1, 1] := by
  unfold solX
  rw [(red_aug rfl rfl cols_m).1, (red_aug rfl rfl cols_m).2, cols_m]
  have h0 : partF (elim 2 (cA l5m [6, 4]) 3).1 (elim 2 (cA l5m [6, 4]) 3).2 2 0 = 1 := by kernel_rfl
  have h1 : partF (elim 2 (cA l5m [6, 4]) 3).1 (elim 2 (cA l5m [6, 4]) 3).2 2 1 = 1 := by kernel_rfl
  show [qc (partF (elim 2 (cA l5m [6, 4]) 3).1 (elim 2 (cA l5m [6, 4]) 3).2 2 0), qc (partF (elim 2 (cA l5m [6, 4]) 3).1 (elim 2 (cA l5m [6, 4]) 3).2 2 1)] = _
  rw [h0, h1]; rfl
theorem solX_3 : solX (intsM l5s) (intsV [1, 2]) = intsV [1, 0] := by
  unfold solX
  rw [(red_aug rfl rfl cols_s).1, (red_aug rfl rfl cols_s).2, cols_s]
  have h0 : partF (elim 2 (cA l5s [1, 2]) 3).1 (elim 2 (cA l5s [1, 2]) 3).2 2 0 = 1 := by kernel_rfl
  have h1 : partF (elim 2 (cA l5s [1, 2]) 3).1 (elim 2 (cA l5s [1, 2]) 3).2 2 1 = 0 := by kernel_rfl
  show [qc (partF (elim 2 (cA l5s [1, 2]) 3).1 (elim 2 (cA l5s [1, 2]) 3).2 2 0), qc (partF (elim 2 (cA l5s [1, 2]) 3).1 (elim 2 (cA l5s [1, 2]) 3).2 2 1)] = _
  rw [h0, h1]; rfl
theorem det_m : detM (intsM l5m) = 2 := by
  unfold detM
  rw [rm_ints, intsM_length]
  kernel_rfl
theorem inv_m : invE (intsM l5m) = elim 2 (fun i k => if k < 2 then cM l5m i k else idR i (k - 2)) 2 := by
  unfold invE
  have : invF (intsM l5m) = fun i k => if k < 2 then cM l5m i k else idR i (k - 2) := by
    funext i k
    unfold invF
    rw [intsM_length, rm_intsM]; rfl
  rw [this, intsM_length]; rfl
theorem invertible_m : invertible (intsM l5m) := by
  unfold invertible
  rw [inv_m, intsM_length, show (elim 2 (fun i k => if k < 2 then cM l5m i k else idR i (k - 2)) 2).2 = [0, 1] by kernel_rfl]; decide
theorem invM_m : invM (intsM l5m) = [[qc (Rat.divInt 3 2), qc ((-2 : Int) : Rat)], [qc (-(Rat.divInt 1 2)), qc ((1 : Int) : Rat)]] := by
  unfold invM
  rw [intsM_length, inv_m]
  have h00 : (elim 2 (fun i k => if k < 2 then cM l5m i k else idR i (k - 2)) 2).1 0 2 = Rat.divInt 3 2 := by kernel_rfl
  have h01 : (elim 2 (fun i k => if k < 2 then cM l5m i k else idR i (k - 2)) 2).1 0 3 = ((-2 : Int) : Rat) := by kernel_rfl
  have h10 : (elim 2 (fun i k => if k < 2 then cM l5m i k else idR i (k - 2)) 2).1 1 2 = -(Rat.divInt 1 2) := by kernel_rfl
  have h11 : (elim 2 (fun i k => if k < 2 then cM l5m i k else idR i (k - 2)) 2).1 1 3 = ((1 : Int) : Rat) := by kernel_rfl
  show [[qc ((elim 2 (fun i k => if k < 2 then cM l5m i k else idR i (k - 2)) 2).1 0 2), qc ((elim 2 (fun i k => if k < 2 then cM l5m i k else idR i (k - 2)) 2).1 0 3)], [qc ((elim 2 (fun i k => if k < 2 then cM l5m i k else idR i (k - 2)) 2).1 1 2), qc ((elim 2 (fun i k => if k < 2 then cM l5m i k else idR i (k - 2)) 2).1 1 3)]] = _
  rw [h00, h01, h10, h11]
end Go.Proofs.YtccmemilofoamaaGreat

namespace Go.Proofs.YtccmemilofoamaaGreat
open Go Go.Kx Go.RowKit
theorem isM_t {w : World} {va vb : Value} {a b : List (List QV)} (ha : eM.R (fun _ => True) w va a) (hb : eM.R (fun _ => True) w vb b) (h : a = b) : CR Tryz.prog 20 #[va, vb] w (Is (.bool true)) := by
  have := ref04_Is_c ha hb
  rwa [same_true h] at this
theorem isV_t {w : World} {va vb : Value} {a b : List QV} (ha : eV.R (fun _ => True) w va a) (hb : eV.R (fun _ => True) w vb b) (h : a = b) : CR Tryz.prog 19 #[va, vb] w (Is (.bool true)) := by
  have := ref03_Is_c ha hb
  rwa [same_true h] at this
theorem isQ_t {w : World} {va vb : Value} {a b : QV} (ha : eQ.R (fun _ => True) w va a) (hb : eQ.R (fun _ => True) w vb b) (h : a = b) : CR Tryz.prog 22 #[va, vb] w (Is (.bool true)) := by
  have := ref02_Is_c ha hb
  rwa [same_true h] at this
theorem bsl_V2 {x y z u x' y' z' u' : Value} : bslOf Tryz.prog 23 2 [(0, .agg #[x, y, z, u]), (1, .agg #[x', y', z', u'])] = some (37, #[x, y, z, u, x', y', z', u']) := by kernel_rfl
theorem ok5 (l : List (List Int)) (h : ∀ r ∈ l, ∀ n ∈ r, -9223372036854775808 ≤ n ∧ n ≤ 9223372036854775807) (hl : l.length ≤ 2) (hc : colsOf (intsM l) ≤ 2) : eOk 2 2 2 (intsM l) := ⟨mk_intsM h, by decide, by decide, by omega, by rw [intsM_length]; omega, hc, by decide⟩

theorem ob_V2 {w : World} {σ : Env} {d : Option Tmp} {ty : TypeId} {pos : String} {af : Array Edge} {g : Option (Nat × Bool)} {x y : Operand} {u v : Value} {a b : QV} (hu : eQ.R (fun _ => True) w u a) (hv : eQ.R (fun _ => True) w v b) (hx : ev σ x = some u := by rfl) (hy : ev σ y = some v := by rfl) :
    Gv Tryz.prog ⟨d, .buildSlice 23 2 #[(0, x), (1, y)], ty, pos, af, g⟩ σ w fun v' w' => Ext w w' ∧ Sp.ok (.inr (eV.at (fun _ => True) [a, b])) v' w' := by
  have hu' := hu
  have hv' := hv
  obtain ⟨s, t, rfl, _, _⟩ := hu'
  obtain ⟨s', t', rfl, _, _⟩ := hv'
  refine (g_bsl (ps := [(0, x), (1, y)]) [(0, .agg #[.bool a.num.neg, s, .bool a.den.neg, t]), (1, .agg #[.bool b.num.neg, s', .bool b.den.neg, t'])] (by simp [evp, hx, hy]) bsl_V2).mono fun v' w' ⟨b2, hv', n2⟩ => ⟨n2.1, fun w'' e => ?_⟩
  have hz : eV.R (fun _ => True) w' (.slice (some ⟨b2, 0, none⟩) 2 2) [a, b] := by
    refine RL.ofBlk (l := [a, b]) (es := [.agg #[.bool a.num.neg, s, .bool a.den.neg, t], .agg #[.bool b.num.neg, s', .bool b.den.neg, t']]) n2.2.1 trivial (Els.snoc (Els.snoc Els.nil (ER.ext eQ hu n2.1)) (ER.ext eQ hv n2.1)) (fun j u hu => ?_) (Nat.le_refl _) (by simp)
    simpa [cellsOf, Value.cells] using hu
  rw [hv']
  exact ER.ext eV hz e
theorem ob_M2 {w : World} {σ : Env} {d : Option Tmp} {ty : TypeId} {pos : String} {af : Array Edge} {g : Option (Nat × Bool)} {x y : Operand} {u v : Value} {a b : List QV} (hu : eV.R (fun _ => True) w u a) (hv : eV.R (fun _ => True) w v b) (hx : ev σ x = some u := by rfl) (hy : ev σ y = some v := by rfl) :
    Gv Tryz.prog ⟨d, .buildSlice 22 2 #[(0, x), (1, y)], ty, pos, af, g⟩ σ w fun v' w' => Ext w w' ∧ Sp.ok (.inr (eM.at (fun _ => True) [a, b])) v' w' := by
  obtain ⟨a1, c1, h1, _⟩ := RL.len hu
  obtain ⟨a2, c2, h2, _⟩ := RL.len hv
  refine (g_bsl (ps := [(0, x), (1, y)]) [(0, u), (1, v)] (by simp [evp, hx, hy]) (cs := #[u, v]) (e := 23) (by rw [h1, h2]; exact bsl_M2)).mono fun v' w' ⟨b2, hv', n2⟩ => ⟨n2.1, fun w'' e => ?_⟩
  have := eS_new (E := eQ) (hsz := by decide) (n := 2) [u, v] [a, b] n2 upT rfl rfl (by decide) (Els.snoc (Els.snoc Els.nil hu) hv)
  rw [hv']
  exact ER.ext eM this e
theorem ob_L2 {w : World} {σ : Env} {d : Option Tmp} {ty : TypeId} {pos : String} {af : Array Edge} {g : Option (Nat × Bool)} {m n : Int} (h : (-9223372036854775808 ≤ m ∧ m ≤ 9223372036854775807) ∧ -9223372036854775808 ≤ n ∧ n ≤ 9223372036854775807) :
    Gv Tryz.prog ⟨d, .buildSlice 72 2 #[(0, .const (.int .i64 m)), (1, .const (.int .i64 n))], ty, pos, af, g⟩ σ w fun v' w' => Ext w w' ∧ Sp.ok (.inr (eI.at (fun _ => True) [m, n])) v' w' :=
  (g_bsl (ps := [(0, .const (.int .i64 m)), (1, .const (.int .i64 n))]) _ rfl bsl_L2).mono fun v' w' ⟨b2, hv', n2⟩ => ⟨n2.1, fun w'' e => by
    rw [hv']
    exact ER.ext eI (eI_new [m, n] 2 n2 upT rfl rfl (by intro x hx; simp at hx; rcases hx with rfl | rfl; exact h.1; exact h.2) (by omega)) e⟩

theorem E_law05_alive : Ent Tryz.prog 12 := ent_of Tryz.func12 (by kernel_rfl) rfl
theorem law05_alive_c {w : World} : CR Tryz.prog 12 #[] w (Is (.bool true)) := by
  have hkm : mk_ 2 (intsM l5m) := mk_intsM (by decide)
  have hks : mk_ 2 (intsM l5s) := mk_intsM (by decide)
  refine enter Tryz.func12 rfl Tryz.ntmps12 rfl ?_
  refine .seq (.region (.asg rfl rfl (.nil (.seq (.region (.asg rfl rfl (.nil ?_)))))))
  refine .seq (.region (.mv rfl rfl (.bsl _ rfl rfl bsl_L2 fun w1 b1 n1 => .bsl _ rfl rfl bsl_L2 fun w2 b2 n2 => .bsl _ rfl rfl bsl_LL2 fun w3 b3 n3 => ?_)))
  have h1 := eI_new [2, 4] 2 n1 upT rfl rfl (by decide) (by omega)
  have h2 := eI_new [1, 3] 2 n2 upT rfl rfl (by decide) (by omega)
  have h3 := eII_new2 n3 upT (h1.ext n2.1) h2
  refine .callv [_] rfl rfl E_ref04_Ints rfl (ref04_Ints_c upT h3 (by decide) (by decide)) fun vm w4 e4 hm => ?_
  have y4 := ((n1.1.trans n2.1).trans n3.1).trans e4
  refine .mv rfl rfl (.bsl _ rfl rfl bsl_L2 fun w5 b5 n5 => .bsl _ rfl rfl bsl_L2 fun w6 b6 n6 => .bsl _ rfl rfl bsl_LL2 fun w7 b7 n7 => ?_)
  have h5 := eI_new [1, 2] 2 n5 upT rfl rfl (by decide) (by omega)
  have h6 := eI_new [2, 4] 2 n6 upT rfl rfl (by decide) (by omega)
  have h7 := eII_new2 n7 upT (h5.ext n6.1) h6
  refine .callv [_] rfl rfl E_ref04_Ints rfl (ref04_Ints_c upT h7 (by decide) (by decide)) fun vs w8 e8 hs => .asg rfl rfl (.asg rfl rfl (.nil ?_))
  have y8 := ((n5.1.trans n6.1).trans n7.1).trans e8
  have x8 := y4.trans y8
  have hm := hm.ext y8
  clear h1 h2 h3 h5 h6 h7
  replace hm : eM.R (fun _ => True) w8 vm (intsM l5m) := hm
  replace hs : eM.R (fun _ => True) w8 vs (intsM l5s) := hs
  -- Solve(m, (6, 4))
  refine .seq (.region (.mv rfl rfl (.bsl _ rfl rfl bsl_L2 fun w9 b9 n9 => ?_)))
  have h9 := eI_new [6, 4] 2 n9 upT rfl rfl (by decide) (by omega)
  refine .call _ rfl E_vec_FromInts rfl (vec_FromInts_c upT h9 (by decide)) fun v10 w10 e10 h10 => ?_
  replace h10 : eV.R (fun _ => True) w10 v10 (intsV [6, 4]) := h10
  have y10 := n9.1.trans e10
  refine .call _ rfl E_solve_Solve rfl (solve_Solve_c (L := 2) (n := 2) upT (hm.ext y10) h10 hkm (vk_intsV (by decide)) (by decide) (by rw [intsM_length]; decide) (by rw [intsV_length]; decide) (by rw [cols_m]; decide) (by rw [intsM_length, intsV_length]; decide) (by decide)) fun v11 w11 e11 h11 => ?_
  obtain ⟨vx, vf, ve, rfl, hx, hf, he⟩ := h11
  rw [if_pos solvable_1] at he
  replace he : ve = .int .i64 0 := he
  subst he
  rw [if_pos solvable_1, solX_1] at hx
  rw [if_pos solvable_1, null_m] at hf
  have x11 := (x8.trans y10).trans e11
  have z11 := y10.trans e11
  have hm := hm.ext z11
  have hs := hs.ext z11
  refine .mv rfl rfl (.ext rfl rfl rfl (.ext rfl rfl rfl (.ext rfl rfl rfl (.asg rfl rfl (.asg rfl rfl (.asg rfl rfl (.nil ?_)))))))
  -- Reduce(s)
  refine .seq (.region (.mv rfl rfl ?_))
  refine .call _ rfl E_solve_Reduce rfl (solve_Reduce_c upT hs (ok5 l5s (by decide) (by decide) (by rw [cols_s]; decide))) fun v12 w12 e12 h12 => ?_
  obtain ⟨vr, vp, rfl, hr, hp⟩ := h12
  rw [redM_s] at hr
  rw [redP_s] at hp
  refine .mv rfl rfl (.ext rfl rfl rfl (.ext rfl rfl rfl (.asg rfl rfl (.asg rfl rfl (.nil ?_)))))
  -- NullSpace(s)
  refine .seq (.region (.mv rfl rfl ?_))
  refine .call _ rfl E_solve_NullSpace rfl (solve_NullSpace_c upT (hs.ext e12) (ok5 l5s (by decide) (by decide) (by rw [cols_s]; decide))) fun vn w13 e13 hn => .asg rfl rfl (.nil ?_)
  rw [null_s] at hn
  have z13 := e12.trans e13
  have hs := hs.ext z13
  have hm := hm.ext z13
  have hx := hx.ext z13
  have hf := hf.ext z13
  have hr := hr.ext e13
  have hp := hp.ext e13
  have x13 := x11.trans z13
  -- Solve(s, (1, 3))
  refine .seq (.region (.mv rfl rfl (.bsl _ rfl rfl bsl_L2 fun w14 b14 n14 => ?_)))
  have h14 := eI_new [1, 3] 2 n14 upT rfl rfl (by decide) (by omega)
  refine .call _ rfl E_vec_FromInts rfl (vec_FromInts_c upT h14 (by decide)) fun v15 w15 e15 h15 => ?_
  replace h15 : eV.R (fun _ => True) w15 v15 (intsV [1, 3]) := h15
  have y15 := n14.1.trans e15
  refine .call _ rfl E_solve_Solve rfl (solve_Solve_c (L := 2) (n := 2) upT (hs.ext y15) h15 hks (vk_intsV (by decide)) (by decide) (by rw [intsM_length]; decide) (by rw [intsV_length]; decide) (by rw [cols_s]; decide) (by rw [intsM_length, intsV_length]; decide) (by decide)) fun v16 w16 e16 h16 => ?_
  obtain ⟨_, _, ve2, rfl, _, _, he2⟩ := h16
  rw [if_neg solvable_2] at he2
  replace he2 : ve2 = .int .i64 8 := he2
  subst he2
  have z16 := y15.trans e16
  refine .mv rfl rfl (.ext rfl rfl rfl (.ext rfl rfl rfl (.ext rfl rfl rfl (.asg rfl rfl (.asg rfl rfl (.asg rfl rfl (.nil ?_)))))))
  -- Solve(s, (1, 2))
  refine .seq (.region (.mv rfl rfl (.bsl _ rfl rfl bsl_L2 fun w17 b17 n17 => ?_)))
  have h17 := eI_new [1, 2] 2 n17 upT rfl rfl (by decide) (by omega)
  refine .call _ rfl E_vec_FromInts rfl (vec_FromInts_c upT h17 (by decide)) fun v18 w18 e18 h18 => ?_
  replace h18 : eV.R (fun _ => True) w18 v18 (intsV [1, 2]) := h18
  have y18 := (z16.trans n17.1).trans e18
  refine .call _ rfl E_solve_Solve rfl (solve_Solve_c (L := 2) (n := 2) upT (hs.ext y18) h18 hks (vk_intsV (by decide)) (by decide) (by rw [intsM_length]; decide) (by rw [intsV_length]; decide) (by rw [cols_s]; decide) (by rw [intsM_length, intsV_length]; decide) (by decide)) fun v19 w19 e19 h19 => ?_
  obtain ⟨vz, _, ve3, rfl, hz, _, he3⟩ := h19
  rw [if_pos solvable_3] at he3
  replace he3 : ve3 = .int .i64 0 := he3
  subst he3
  rw [if_pos solvable_3, solX_3] at hz
  have z19 := y18.trans e19
  have hm := hm.ext z19
  refine .mv rfl rfl (.ext rfl rfl rfl (.ext rfl rfl rfl (.ext rfl rfl rfl (.asg rfl rfl (.asg rfl rfl (.asg rfl rfl (.nil ?_)))))))
  -- Det(m)
  refine .seq (.region (.mv rfl rfl ?_))
  refine .call _ rfl E_solve_Det rfl (solve_Det_c (L := 2) (n := 2) upT hm hkm (by decide) (by rw [intsM_length]; decide) (by rw [cols_m]; decide) (by decide) (by decide)) fun v20 w20 e20 h20 => ?_
  obtain ⟨vd, ve4, rfl, hd, he4⟩ := h20
  have hsq : colsOf (intsM l5m) = (intsM l5m).length := by rw [cols_m, intsM_length]; rfl
  rw [if_pos hsq] at he4
  replace he4 : ve4 = .int .i64 0 := he4
  subst he4
  rw [if_pos hsq, det_m] at hd
  refine .mv rfl rfl (.ext rfl rfl rfl (.ext rfl rfl rfl (.alloc rfl zero_Q fun w21 b16 n21 => ?_)))
  obtain ⟨e21, k16, hb16, hs21⟩ := n21
  refine .storeA (E := eQ) ty_Q rfl rfl k16 rfl rfl (S := fun k => True ∧ k < w20.heap.size) ((ER.lt eQ hd).ext e21) (fun h => by have := h.2; omega) fun w22 k16 u22 hd => .asg rfl rfl (.nil ?_)
  have x22 : Ext w20 w22 := u22.below e21 (by omega)
  have hdv := shpA rfl hd
  have hd : eQ.R (fun _ => True) w22 vd (qc 2) := eQ.mono (fun _ _ _ => trivial) hd
  -- Inverse(m)
  refine .seq (.region (.mv rfl rfl ?_))
  refine .call _ rfl E_solve_Inverse rfl (solve_Inverse_c (L := 2) (n := 2) upT ((hm.ext e20).ext x22) hkm (by decide) (by rw [intsM_length]; decide) (by rw [cols_m]; decide) (by decide) (by decide)) fun v23 w23 e23 h23 => ?_
  obtain ⟨vv, ve5, rfl, hv, he5⟩ := h23
  rw [if_pos hsq, if_pos invertible_m] at he5
  replace he5 : ve5 = .int .i64 0 := he5
  subst he5
  rw [if_pos ⟨hsq, invertible_m⟩, invM_m] at hv
  refine .mv rfl rfl (.ext rfl rfl rfl (.ext rfl rfl rfl (.asg rfl rfl (.asg rfl rfl (.nil ?_)))))
  have z23 := (e20.trans x22).trans e23
  have z13_23 := z19.trans z23
  have x23 := x13.trans z13_23
  have hx := hx.ext z13_23
  have hf := hf.ext z13_23
  have hr := hr.ext z13_23
  have hp := hp.ext z13_23
  have hn := hn.ext z13_23
  have hz := hz.ext z23
  have k16 := k16.ext e23
  have hd := hd.ext e23
  clear hs hm
  -- the first tests
  refine .seq (.seq (.region (.mv rfl rfl (.bsl _ rfl rfl bsl_L2 fun w24 b24 n24 => ?_))))
  have h24 := eI_new [1, 1] 2 n24 upT rfl rfl (by decide) (by omega)
  refine .call _ rfl E_vec_FromInts rfl (vec_FromInts_c upT h24 (by decide)) fun v25 w25 e25 h25 => ?_
  have y25 := n24.1.trans e25
  refine .call _ rfl E_ref03_Is rfl (isV_t (hx.ext y25) h25 rfl) fun v26 w26 e26 h26 => ?_
  subst h26
  have y26 := y25.trans e26
  refine .not_ rfl rfl (.mv rfl rfl (.gr rfl rfl rfl rfl (.mv rfl rfl (.gr rfl rfl rfl rfl (.lenR un_M rfl rfl (hf.ext y26) (.gr rfl rfl rfl rfl (.neqF rfl rfl rfl rfl (.pick rfl rfl rfl (.mv rfl rfl ?_)))))))))
  refine .gr rfl rfl rfl rfl (.mv rfl rfl (.gr rfl rfl rfl rfl (.neqF rfl rfl rfl rfl (.pick rfl rfl rfl (.mv rfl rfl ?_)))))
  refine .gr rfl rfl rfl rfl (.mv rfl rfl (.gr rfl rfl rfl rfl (.mv rfl rfl (.gr rfl rfl rfl rfl (.bsl _ rfl rfl bsl_L2 fun w27 b27 n27 => .gr rfl rfl rfl rfl (.bsl _ rfl rfl bsl_LL1 fun w28 b28 n28 => .gr rfl rfl rfl rfl ?_))))))
  have h27 := eI_new [1, 2] 2 n27 upT rfl rfl (by decide) (by omega)
  have h28 := eII_new1 n28 upT h27
  refine .callv [_] rfl rfl E_ref04_Ints rfl (ref04_Ints_c upT h28 (by decide) (by decide)) fun v29 w29 e29 h29 => .gr rfl rfl rfl rfl ?_
  have y29 := ((y26.trans n27.1).trans n28.1).trans e29
  refine .call _ rfl E_ref04_Is rfl (isM_t (hr.ext y29) h29 rfl) fun v30 w30 e30 h30 => .gr rfl rfl rfl rfl ?_
  subst h30
  have y30 := y29.trans e30
  refine .not_ rfl rfl (.pick rfl rfl rfl (.mv rfl rfl (.gr rfl rfl rfl rfl (.mv rfl rfl (.gr rfl rfl rfl rfl (.bsl _ rfl rfl bsl_I1 fun w31 b31 n31 => .gr rfl rfl rfl rfl ?_))))))
  have h31 := eI_new [0] 1 n31 upT rfl rfl (by decide) (by omega)
  have y31 := y30.trans n31.1
  refine .call _ rfl E_ref05_Ints rfl (ref05_Ints_c (a := [0]) (hp.ext y31) h31) fun v32 w32 e32 h32 => .gr rfl rfl rfl rfl ?_
  subst h32
  have y32 := y31.trans e32
  refine .not_ rfl rfl (.pick rfl rfl rfl (.mv rfl rfl (.gr rfl rfl rfl rfl (.mv rfl rfl (.gr rfl rfl rfl rfl (.mv rfl rfl (.gr rfl rfl rfl rfl (.bsl _ rfl rfl bsl_L2 fun w33 b33 n33 => .gr rfl rfl rfl rfl (.bsl _ rfl rfl bsl_LL1 fun w34 b34 n34 => .gr rfl rfl rfl rfl ?_)))))))))
  have h33 := eI_new [-2, 1] 2 n33 upT rfl rfl (by decide) (by omega)
  have h34 := eII_new1 n34 upT h33
  refine .callv [_] rfl rfl E_ref04_Ints rfl (ref04_Ints_c upT h34 (by decide) (by decide)) fun v35 w35 e35 h35 => .gr rfl rfl rfl rfl ?_
  have y35 := ((y32.trans n33.1).trans n34.1).trans e35
  refine .call _ rfl E_ref04_Is rfl (isM_t (hn.ext y35) h35 rfl) fun v36 w36 e36 h36 => .gr rfl rfl rfl rfl ?_
  subst h36
  have y36 := y35.trans e36
  refine .not_ rfl rfl (.pick rfl rfl rfl (.mv rfl rfl (.gr rfl rfl rfl rfl (.mv rfl rfl (.gr rfl rfl rfl rfl (.neqF rfl rfl rfl rfl (.pick rfl rfl rfl (.nil (.condF rfl (.skip ?_))))))))))
  have hz := hz.ext y36
  have hv := hv.ext y36
  have k16 := k16.ext y36
  have hd := hd.ext y36
  have x36 := x23.trans y36
  -- the half
  refine .seq (.region ?_)
  refine .call _ rfl E_ref02_Of rfl (ref02_Of_c upT (by decide) (by decide)) fun v37 w37 e37 h37 => .alloc rfl zero_Q fun w38 b20 n38 => ?_
  obtain ⟨e38, k20, hb20, hs38⟩ := n38
  refine .storeA (E := eQ) ty_Q rfl rfl k20 rfl rfl (S := fun k => True ∧ k < w37.heap.size) ((ER.lt eQ h37).ext e38) (fun h => by have := h.2; omega) fun w39 k20 u39 hh => .nil ?_
  have x39 : Ext w36 w39 := (e37.trans (u39.below e38 (by omega)))
  have hhv := shpA rfl hh
  have hh : eQ.R (fun _ => True) w39 v37 (qc (Rat.divInt 1 2)) := eQ.mono (fun _ _ _ => trivial) hh
  have hz := hz.ext x39
  have hv := hv.ext x39
  have k16 := k16.ext x39
  have hd := hd.ext x39
  have x39 := x36.trans x39
  refine .seq ?_
  refine .par follows 8 [.inr (eQ.at (fun _ => True) (qc (Rat.divInt 3 2))), .inr (eQ.at (fun _ => True) (qc ((-2 : Int) : Rat))), .inr (eV.at (fun _ => True) [qc (Rat.divInt 3 2), qc ((-2 : Int) : Rat)]), .inl v37, .inr (eQ.at (fun _ => True) (qc (-(Rat.divInt 1 2)))), .inr (eQ.at (fun _ => True) (qc ((1 : Int) : Rat))), .inr (eV.at (fun _ => True) [qc (-(Rat.divInt 1 2)), qc ((1 : Int) : Rat)]), .inr (eM.at (fun _ => True) [[qc (Rat.divInt 3 2), qc ((-2 : Int) : Rat)], [qc (-(Rat.divInt 1 2)), qc ((1 : Int) : Rat)]])]
    [[], [], [(116, 0), (117, 1)], [], [(119, 3)], [], [(120, 4), (121, 5)], [(118, 2), (122, 6)]] (by kernel_rfl) ⟨
    fun w e => (g_call _ E_ref02_Of rfl (ref02_Of_c upT (by decide) (by decide))).ob (st_at _ _ _),
    fun w e => (g_call _ E_ref02_Int rfl (ref02_Int_c upT (by decide) (by decide))).ob (st_at _ _ _),
    fun w e x hx y hy => ob_V2 hx hy,
    fun w e => ((v_ldA ty_Q rfl (k20.ext e) (eQ.csz hh)).eq hhv.symm).ob,
    fun w e => by
      have := ref02_Neg_c (L := 2) upT (ER.ext eQ hh e) (Rsz.toOk ⟨by decide +kernel, by decide +kernel⟩) (by decide) (by decide)
      rw [qval_qc] at this
      exact (g_call _ E_ref02_Neg rfl this).ob (st_at _ _ _),
    fun w e => (g_call _ E_ref02_Int rfl (ref02_Int_c upT (by decide) (by decide))).ob (st_at _ _ _),
    fun w e x hx y hy => ob_V2 hx hy,
    fun w e x hx y hy => ob_M2 hx hy, trivial⟩ ?_
  intro w40 e40 y0 _ y1 _ y2 _ y4 _ y5 _ y6 _ y7 hw
  refine .asg rfl rfl (.nil (.seq ?_))
  have hz := hz.ext e40
  have hv := hv.ext e40
  have k16 := k16.ext e40
  have hd := hd.ext e40
  have x40 := x39.trans e40
  refine .par follows 26 [.inl vz, .inr (eI.at (fun _ => True) [1, 0]), .inr (eV.at (fun _ => True) (intsV [1, 0])), .inl (.bool true), .inl (.bool true), .inl (.int .i64 0), .inl (.bool true), .inl (.bool true), .inl (.bool true), .inl vd, .inr (eQ.at (fun _ => True) (qc ((2 : Int) : Rat))), .inl (.bool true), .inl (.bool true), .inl (.bool true), .inl (.int .i64 0), .inl (.bool true), .inl (.bool true), .inl (.bool true), .inl vv, .inl y7, .inl (.bool true), .inl (.bool true), .inl (.bool true), .inl (.int .i64 0), .inl (.bool true), .inl (.bool true)]
    [[], [], [(125, 1)], [(124, 0), (126, 2)], [(127, 3)], [(128, 4)], [(129, 5), (128, 4)], [(128, 4), (130, 6)], [(131, 7)], [(132, 8)], [(132, 8)], [(133, 9), (134, 10), (132, 8)], [(132, 8), (135, 11)], [(136, 12)], [(137, 13)], [(138, 14), (137, 13)], [(137, 13), (139, 15)], [(140, 16)], [(141, 17)], [(141, 17)], [(142, 18), (143, 19), (141, 17)], [(141, 17), (144, 20)], [(145, 21)], [(146, 22)], [(147, 23), (146, 22)], [(146, 22), (148, 24)]] (by kernel_rfl) ⟨
    fun w e => (v_mv rfl).ob,
    fun w e => ob_L2 (by decide),
    fun w e x hx => (g_call _ E_vec_FromInts rfl (vec_FromInts_c upT hx (by decide))).ob (st_at _ _ _),
    fun w e x hx => (g_call _ E_ref03_Is rfl (isV_t (ER.ext eV hz e) hx rfl)).obIs,
    fun w e => (v_mv rfl).ob, fun w e => (v_mv rfl).ob, fun w e => (v_eql (m := 0) (n := 0) rfl rfl).ob, fun w e => (v_pickT rfl rfl).ob, fun w e => (v_mv rfl).ob,
    fun w e => ((v_ldA ty_Q rfl (k16.ext e) (eQ.csz hd)).eq hdv.symm).ob,
    fun w e => (g_call _ E_ref02_Int rfl (ref02_Int_c upT (by decide) (by decide))).ob (st_at _ _ _),
    fun w e x hx => (g_call _ E_ref02_Is rfl (isQ_t (ER.ext eQ hd e) hx rfl)).obIs,
    fun w e => (v_pickT rfl rfl).ob, fun w e => (v_mv rfl).ob, fun w e => (v_mv rfl).ob, fun w e => (v_eql (m := 0) (n := 0) rfl rfl).ob, fun w e => (v_pickT rfl rfl).ob, fun w e => (v_mv rfl).ob, fun w e => (v_mv rfl).ob, fun w e => (v_mv rfl).ob,
    fun w e => (g_call _ E_ref04_Is rfl (isM_t (ER.ext eM hv e) (ER.ext eM hw e) rfl)).obIs,
    fun w e => (v_pickT rfl rfl).ob, fun w e => (v_mv rfl).ob, fun w e => (v_mv rfl).ob, fun w e => (v_eql (m := 0) (n := 0) rfl rfl).ob, fun w e => (v_pickT rfl rfl).ob, trivial⟩ ?_
  intro w41 e41 y1 _ y2 _ y10 _
  refine .asg rfl rfl (.nil (.ret ?_))
  exact .plain [_] Tryz.results12 ⟨rfl, trivial⟩ ⟨x40.trans e41, rfl⟩

end Go.Proofs.YtccmemilofoamaaGreat

namespace Go.Kx
section
variable {n N C CA : Nat} {g A : RM} {p : List Nat}
theorem part_dot (h : Ech n CA g p) {D : Nat} (hp : ∀ j, j < p.length → p.getD j 0 < C) (a : Nat → Rat) : sumN C (fun k => a k * partF g p D k) = sumN p.length fun j => a (p.getD j 0) * g j D := by
  have e1 : ∀ k, a k * partF g p D k = sumN p.length fun j => if p.getD j 0 = k then a (p.getD j 0) * g j D else 0 := by
    intro k
    unfold partF partTo
    rw [← sumN_mul]
    refine sumN_congr fun j _ => ?_
    by_cases e : p.getD j 0 = k
    · rw [if_pos e, if_pos e, e]
    · rw [if_neg e, if_neg e, Rat.mul_zero]
  rw [sumN_congr fun k _ => e1 k, sumN_swap]
  refine sumN_congr fun j hj => ?_
  rw [sumN_single (i := p.getD j 0) (fun k _ hk => by rw [if_neg (fun e => hk e.symm)]), if_pos (hp j hj), if_pos rfl]
/-- where the last column has no pivot there is a solution -/
theorem sol_of (he : Ech N (C + 1) g p) (hq : Req N (C + 1) A g) (hp : ∀ j, j < p.length → p.getD j 0 ≠ C) : ∀ i, i < N → sumN C (fun k => A i k * partF g p C k) = A i C := by
  have hp' : ∀ j, j < p.length → p.getD j 0 < C := fun j hj => by have := he.lt j hj; have := hp j hj; omega
  have key : ∀ i, i < N → sumN (C + 1) (fun k => g i k * (if k = C then -1 else partF g p C k)) = 0 := by
    intro i hi
    rw [sumN, if_pos rfl, sumN_congr (g := fun k => g i k * partF g p C k) fun k hk => by rw [if_neg (by omega)], part_dot he hp']
    rw [sumN_single (i := i) (fun j hj hne => by rw [he.one i j hi hj, if_neg (fun e => hne e.symm), Rat.zero_mul])]
    split
    · rename_i hj; rw [he.one i i hi hj, if_pos rfl]; grind
    · rename_i hj; rw [he.nil i C (by omega) hi (by omega)]; grind
  intro i hi
  have := Spn.dot0 (hq.2 i hi) key
  rw [sumN, if_pos rfl, sumN_congr (g := fun k => A i k * partF g p C k) fun k hk => by rw [if_neg (by omega)]] at this
  grind
/-- where it has one, a combination of the rows says 0 = 1 -/
theorem no_sol (he : Ech N (C + 1) g p) (hq : Req N (C + 1) A g) {j : Nat} (hj : j < p.length) (hC : p.getD j 0 = C) : ∃ t : Nat → Rat, (∀ k, k < C → sumN N (fun i => t i * A i k) = 0) ∧ sumN N (fun i => t i * A i C) = 1 := by
  have hN := he.len
  obtain ⟨t, ht⟩ := hq.1 j (by omega)
  refine ⟨t, fun k hk => ?_, ?_⟩
  · rw [← ht k (by omega)]; exact he.low j k hj (by omega)
  · rw [← ht C (by omega)]
    have := he.one j j (by omega) hj
    rw [hC, if_pos rfl] at this; exact this
theorem sol_no {x t : Nat → Rat} (hx : ∀ i, i < N → sumN C (fun k => A i k * x k) = A i C) (ht : ∀ k, k < C → sumN N (fun i => t i * A i k) = 0) : sumN N (fun i => t i * A i C) = 0 := by
  have e1 : sumN N (fun i => t i * A i C) = sumN N fun i => sumN C fun k => (t i * A i k) * x k := sumN_congr fun i hi => by
    rw [← hx i hi, ← sumN_mul]
    exact sumN_congr fun k _ => by grind
  rw [e1, sumN_swap]
  exact sumN_zero' fun k hk => by rw [sumN_mulr, ht k hk, Rat.zero_mul]
end
theorem Ech.nodup {n c : Nat} {g : RM} {p : List Nat} (h : Ech n c g p) : p.Nodup := by
  rw [List.nodup_iff_pairwise_ne, List.pairwise_iff_getElem]
  intro i j hi hj hij
  have := h.mono hij hj
  rw [List.getD_eq_getElem?_getD, List.getD_eq_getElem?_getD, List.getElem?_eq_getElem hi, List.getElem?_eq_getElem hj] at this
  simp at this
  omega
/-- free columns and pivots are all the columns -/
theorem free_count {p : List Nat} (hn : p.Nodup) : ∀ i, (freeTo p i).length + p.countP (fun k => decide (k < i)) = i
  | 0 => by unfold freeTo; simp
  | i + 1 => by
    have ih := free_count hn i
    have h1 : (freeTo p (i + 1)).length = (freeTo p i).length + if i ∈ p then 0 else 1 := by
      unfold freeTo
      rw [List.range_succ, List.filter_append, List.length_append]
      by_cases h : i ∈ p <;> simp [h]
    have h2 : p.countP (fun k => decide (k < i + 1)) = p.countP (fun k => decide (k < i)) + if i ∈ p then 1 else 0 := by
      clear ih h1
      induction p with
      | nil => simp
      | cons x p ihp =>
        have hx := List.nodup_cons.1 hn
        rw [List.countP_cons, List.countP_cons, ihp hx.2]
        by_cases e : x = i
        · subst e
          simp [hx.1]
        · have h3 : (i ∈ x :: p) ↔ i ∈ p := by simp [show ¬ i = x from fun h => e h.symm]
          simp only [h3]
          by_cases h4 : x < i
          · simp [h4, show x < i + 1 by omega]; omega
          · simp [h4, show ¬ x < i + 1 by omega]
    rw [h1, h2]
    by_cases h : i ∈ p
    · simp only [h, if_true]; omega
    · simp only [h, if_false]; omega
theorem Ech.free_len {n C : Nat} {g : RM} {p : List Nat} (h : Ech n C g p) : (freeTo p C).length + p.length = C := by
  have := free_count h.nodup C
  have h1 : p.countP (fun k => decide (k < C)) = p.length := by
    rw [List.countP_eq_length]
    intro k hk
    obtain ⟨j, hj⟩ := List.mem_iff_getElem?.1 hk
    have hl : j < p.length := (List.getElem?_eq_some_iff.1 hj).1
    have := h.lt j hl
    rw [List.getD_eq_getElem?_getD, hj] at this
    simpa using this
  omega
end Go.Kx
