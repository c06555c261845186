/-
  The references: div The references: Sign, Neg, Abs, Add, Mul, Cmp of integers The references: Gcd, Div, Cmp of integers Regions that draw their order, with cells of their own that are known apart (printed by mkkv.py) The references: rational numbers: one, den, num, over, Least, Add, Mul, Neg, Sub, Sign, Cmp The references: rational numbers: Least, Add, Mul, Neg, Sub, Sign, Cmp The references: ref02 Sub, Cmp; vectors: At, Combine, Add, Scale, Dot The references: vectors: Combine, Add, Scale, Dot The references: matrices: At, row, place, made The references: matrices: place of a product, made, Mul, Turn, Beside The references: matrices: Mul, Turn, Beside, Times, Add The references: matrices: Add, Scale, Left The references: matrices: Left mat.Scale The laws' own copies: Own The laws' own copies: vectors and matrices Matrices with their bounds; the algebra of matrices: plain. law 04: MatRing law 05: long, tall; the references Of, Ints; vec.Sign law 05: the numbers of the examples law 05: alive; SolveExamples Solutions of linear equations: plain. law 05: what the answers of package solve satisfy; plain. law 05: what the walks of the laws share law 05: what inverses and determinants satisfy; plain. law 05: every solution; plain. law 05: SolveGeneral law 05: the reduced form; plain. append(l, s...): the elements of another slice. law 05: SolveEchelon law 05: SolveDeterminant What is handed in, opened: arguments that are structs or integers.
-/
import Derived.Test.YtccmemilofoamaaGreatG5
set_option linter.unusedVariables false
namespace Go.Kx
theorem hds_ge {n : Nat} (h : n ≠ 0) : 65536 ^ ((hds n).length - 1) ≤ n := by
  induction n using Nat.strongRecOn with
  | ind n ih =>
    rw [hds_pos h, List.length_cons, Nat.add_sub_cancel]
    by_cases h1 : n / 65536 = 0
    · rw [h1, hds_zero]; simp; omega
    · have := ih (n / 65536) (by omega) h1
      have hl : (hds (n / 65536)).length ≠ 0 := fun e => h1 (hds_eq_nil.1 (List.length_eq_zero_iff.1 e))
      obtain ⟨m, hm⟩ : ∃ m, (hds (n / 65536)).length = m + 1 := ⟨_, (Nat.succ_pred_eq_of_ne_zero hl).symm⟩
      rw [hm] at this ⊢
      rw [Nat.add_sub_cancel] at this
      rw [Nat.pow_succ]
      have := Nat.mul_le_mul_right 65536 this
      omega
theorem valH_set_drop {l : List Nat} {i q : Nat} (h : i < l.length) : valH ((l.set i q).drop i) = q + 65536 * valH (l.drop (i + 1)) := by
  rw [valH_drop (by simpa using h)]
  have h1 : (l.set i q).getD i 0 = q := by rw [List.getD_eq_getElem?_getD, List.getElem?_set_self h]; rfl
  have h2 : (l.set i q).drop (i + 1) = l.drop (i + 1) := by rw [List.drop_set]; simp
  rw [h1, h2]
/-- one step of a long division -/
theorem div_step {D d x R Q : Nat} (hd : 0 < d) (hQ : Q = D / d) (hR : R = D % d) : (x + 65536 * D) / d = (x + 65536 * R) / d + 65536 * Q ∧ (x + 65536 * D) % d = (x + 65536 * R) % d := by
  have h1 := Nat.div_add_mod D d
  rw [← hQ, ← hR] at h1
  have h2 : x + 65536 * D = (x + 65536 * R) + d * (65536 * Q) := by
    rw [← h1, Nat.mul_add]
    have : 65536 * (d * Q) = d * (65536 * Q) := by rw [← Nat.mul_assoc, Nat.mul_comm 65536 d, Nat.mul_assoc]
    omega
  rw [h2, Nat.add_mul_div_left _ _ hd, Nat.add_mul_mod_self_left]
  exact ⟨rfl, rfl⟩
end Go.Kx
namespace Go.Proofs.YtccmemilofoamaaGreat
open Go Go.Kx Go.RowKit

theorem v_ixA {P : Program} {σ : Env} {w : World} {dd : Option Tmp} {ty : TypeId} {pos : String} {af : Array Edge} {gd : Option (Nat × Bool)} {t e : TypeId} {x ix : Operand} {k : IntKind} {i : Nat} {b : Bool} {sz n c : Nat} {ad : Addr} (ht : P.underlying t = some (.slice e)) (he : tyOf P e = some (b, sz)) (hx : ev σ x = some (.slice (some ad) n c))
    (hi : ev σ ix = some (.int k (i : Int))) (hlt : i < n) : Vl P ⟨dd, .indexAddr t x ix, ty, pos, af, gd⟩ σ w (.pointer (some (ad.add (i * sz)))) := by
  refine ⟨(by intro _ h; cases h), fun ρ hρ => ?_⟩
  have h1 := hρ x _ (by simp [Op.operands]) hx
  have h2 := hρ ix _ (by simp [Op.operands]) hi
  simp [execOp, h1, h2, Instr.indexAt, asIntOf, run_underlying ht, (tyOf_agg he w).2]
  intro hh; omega
theorem zero_H {S : Nat → Prop} {w : World} : eH.R S w (.int .i64 0) 0 := ⟨rfl, by decide⟩
theorem FBH_dig {S : Nat → Prop} {w : World} {t : TypeId} {g : Nat} {l : List Nat} (h : FB eH t S w g l) : digH l := by
  intro x hx
  obtain ⟨es, _, he⟩ := h
  obtain ⟨i, hi⟩ := List.mem_iff_getElem?.1 hx
  have hlt : i < l.length := (List.getElem?_eq_some_iff.1 hi).1
  exact (he.2 i _ x (List.getElem?_eq_getElem (by rw [he.1]; exact hlt)) hi).2

theorem E_ref01_div : Ent Tryz.prog 164 := ent_of Tryz.func164 (by kernel_rfl) rfl
theorem ref01_div_c {S : Nat → Prop} {w : World} {va vb : Value} {m d : Nat} (up : Up S w) (ha : eHs.R S w va (hds m)) (hb : eHs.R S w vb (hds d)) (hla : (hds m).length ≤ 10000000000) (hlb : (hds d).length ≤ 10000000000) (hd : d ≠ 0) :
    CR Tryz.prog 164 #[va, vb] w (Two (eHs.at S (hds (m / d))) (eHs.at S (hds (m % d)))) := by
  have hda := digH_hds m
  have hdb := digH_hds d
  have hva := valH_hds m
  have hvb := valH_hds d
  have hbne : (hds d).length ≠ 0 := fun e => hd (hds_eq_nil.1 (List.length_eq_zero_iff.1 e))
  have hbge := hds_ge hd
  have hblt := hds_lt d
  generalize hds m = a at *
  generalize hds d = b at *
  have hA : ∀ {W : World}, Below w.heap.size w W → eHs.R (fun k => S k ∧ k < w.heap.size) W va a := fun hB => eHs.keep (fun k c t f hk h => (hB.block k hk.2).trans h) (ER.lt eHs ha)
  have hBb : ∀ {W : World}, Below w.heap.size w W → eHs.R (fun k => S k ∧ k < w.heap.size) W vb b := fun hB => eHs.keep (fun k c t f hk h => (hB.block k hk.2).trans h) (ER.lt eHs hb)
  refine enter Tryz.func164 rfl Tryz.ntmps164 rfl ?_
  refine .seq (.region (.asg rfl rfl (.asg rfl rfl (.nil ?_))))
  refine .mid (α := Unit) (fun _ => [(0, va), (1, vb)]) (fun _ W => W = w ∧ (3 < a.length ∨ 3 < b.length)) ?_ ?_
  · refine .seq (.region (.mv rfl rfl (.lenR un_H rfl rfl ha ?_)))
    by_cases h1 : a.length ≤ 3
    · refine .leqT rfl rfl rfl (by omega) (.mv rfl rfl (.gr rfl rfl rfl rfl (.mv rfl rfl (.gr rfl rfl rfl rfl (.lenR un_H rfl rfl hb (.gr rfl rfl rfl rfl ?_))))))
      by_cases h2 : b.length ≤ 3
      · refine .leqT rfl rfl rfl (by omega) (.pick rfl rfl rfl (.nil (.condT rfl (.seq (.region (.mv rfl rfl ?_))))))
        refine .call _ rfl E_ref01_small rfl (ref01_small_c ha h1) fun v1 w1 e1 r1 => .mv rfl rfl ?_
        subst r1
        refine .call _ rfl E_ref01_small rfl (ref01_small_c (hb.ext e1) h2) fun v2 w2 e2 r2 => ?_
        subst r2
        rw [hva, hvb]
        have x2 := e1.trans e2
        have hm3 : m < 281474976710656 := by
          have := valH_lt hda
          have hp : 65536 ^ a.length ≤ 65536 ^ 3 := Nat.pow_le_pow_right (by omega) h1
          omega
        have hdle : m / d ≤ m := Nat.div_le_self _ _
        have hmlt : m % d ≤ m := Nat.mod_le _ _
        refine .quo rfl rfl rfl (by omega) ?_
        rw [tdiv_nat, wI (by have h0 : (0 : Int) ≤ ((m / d : Nat) : Int) := Int.natCast_nonneg _; omega)]
        refine .call _ rfl E_ref01_back rfl (ref01_back_c (up.ext x2.size) (by omega)) fun v3 w3 e3 r3 => .mv rfl rfl ?_
        have x3 := x2.trans e3
        refine .call _ rfl E_ref01_small rfl (ref01_small_c (ha.ext x3) h1) fun v4 w4 e4 r4 => .mv rfl rfl ?_
        subst r4
        have x4 := x3.trans e4
        refine .call _ rfl E_ref01_small rfl (ref01_small_c (hb.ext x4) h2) fun v5 w5 e5 r5 => ?_
        subst r5
        rw [hva, hvb]
        have x5 := x4.trans e5
        refine .rem rfl rfl rfl (by omega) ?_
        rw [tmod_nat]
        refine .call _ rfl E_ref01_back rfl (ref01_back_c (up.ext x5.size) (by omega)) fun v6 w6 e6 r6 => .asg rfl rfl (.asg rfl rfl (.nil (.ret ?_)))
        exact .plain [_, _] Tryz.results164 ⟨rfl, rfl, trivial⟩ ⟨x5.trans e6, v3, v6, rfl, ER.ext eHs (ER.ext eHs (ER.ext eHs r3 e4) e5) e6, r6⟩
      · refine .leqF rfl rfl rfl (by omega) (.pick rfl rfl rfl (.nil (.condF rfl (.skip ?_))))
        exact ⟨rfl, (), look_cons rfl (look_cons rfl look_nil), rfl, by omega⟩
    · refine .leqF rfl rfl rfl (by omega) (.mv rfl rfl (.gs rfl rfl rfl rfl rfl (.gs rfl rfl rfl rfl rfl (.gs rfl rfl rfl rfl rfl (.pick rfl rfl rfl (.nil (.condF rfl (.skip ?_))))))))
      exact ⟨rfl, (), look_cons rfl (look_cons rfl look_nil), rfl, by omega⟩
  rintro _ W ⟨hWw, hbig⟩
  have hWw := hWw.symm
  subst hWw
  refine .seq (.region (.mv rfl rfl (.lenR un_H rfl rfl ha ?_)))
  refine .make_ _ _ un_H info_int rfl (by decide) rfl rfl rfl (Nat.le_refl _) (by omega) (by omega) fun w1 g n1 => .asg rfl rfl (.nil ?_)
  have f1 : FB eH 3 S w1 g (List.replicate a.length 0) := FB.made n1 zero_H
  obtain ⟨e1, k1, hg, hs1⟩ := n1
  -- the end of both ways
  have hout : ∀ {W2 : World} {l : List Nat}, FB eH 3 S W2 g l → l.length = a.length → eHs.R S W2 (.slice (some ⟨g, 0, none⟩) a.length a.length) l := by
    intro W2 l hF hl
    have := hF.toR (c := a.length) (hsz := by decide) (up g (by omega)) (by omega) (by omega)
    rwa [hl] at this
  refine .seq (.seq (.region (.mv rfl rfl (.lenR un_H rfl rfl (hBb e1) ?_))))
  by_cases hb1 : b.length = 1
  · refine .eqlT rfl rfl rfl (by omega) (.nil (.condT rfl (.seq (.region (.asg rfl rfl (.nil ?_))))))
    have hb0 : b.getD 0 0 = d := by
      match b, hb1 with
      | [x], _ => simpa [valH] using hvb
    have hd16 : d < 65536 := by rw [hb1] at hblt; simpa using hblt
    have hgetb := getD_get (l := b) (k := 0) (by omega)
    rw [hb0] at hgetb
    refine .mid (α := List Nat × Nat) (fun p => [(6, .slice (some ⟨g, 0, none⟩) a.length a.length), (7, .int .i64 (p.2 : Nat))]) (fun p W => Below w.heap.size w W ∧ FB eH 3 S W g p.1 ∧ p.1.length = a.length ∧ valH p.1 = m / d ∧ p.2 = m % d) ?_ ?_
    · refine .seq (.region (.mv rfl rfl (.lenR un_H rfl rfl (hA e1) (.sub rfl rfl rfl (.asg rfl rfl (.nil ?_))))))
      rw [wI (by omega)]
      refine .block (.loop (α := Nat × List Nat × Nat) (fun x => [(0, va), (1, vb), (6, .slice (some ⟨g, 0, none⟩) a.length a.length), (7, .int .i64 (x.2.2 : Nat)), (8, .int .i64 ((x.1 : Nat) - 1 : Int))])
        (fun x W => Below w.heap.size w W ∧ x.1 ≤ a.length ∧ FB eH 3 S W g x.2.1 ∧ x.2.1.length = a.length ∧ valH (x.2.1.drop x.1) = valH (a.drop x.1) / d ∧ x.2.2 = valH (a.drop x.1) % d) (fun x => x.1) (a.length, List.replicate a.length 0, 0) ?_ ?_ ?_)
      · exact look_cons rfl (look_cons rfl (look_cons rfl (look_cons rfl (look_cons rfl look_nil))))
      · refine ⟨e1, Nat.le_refl _, f1, by simp, ?_, ?_⟩
        · show valH ((List.replicate a.length 0).drop a.length) = _
          rw [List.drop_eq_nil_of_le (by simp), List.drop_eq_nil_of_le (Nat.le_refl _)]; simp [valH]
        · show 0 = _
          rw [List.drop_eq_nil_of_le (Nat.le_refl _)]; simp [valH]
      · rintro ⟨j, l, r⟩ W ⟨hB, hj, hF, hl, hq, hr⟩
        replace hB : Below w.heap.size w W := hB
        replace hj : j ≤ a.length := hj
        replace hF : FB eH 3 S W g l := hF
        replace hl : l.length = a.length := hl
        replace hq : valH (l.drop j) = valH (a.drop j) / d := hq
        replace hr : r = valH (a.drop j) % d := hr
        refine .weak [(0, va), (1, vb), (6, .slice (some ⟨g, 0, none⟩) a.length a.length), (7, .int .i64 (r : Nat)), (8, .int .i64 ((j : Nat) - 1 : Int))] (fun t v h => h) ?_
        have hsz := hB.size
        have hgl := hF.lt
        have hrd : r < d := by rw [hr]; exact Nat.mod_lt _ (by omega)
        refine .seq (.seq (.region (.mv rfl rfl ?_)))
        cases j with
        | zero =>
          refine .geqF rfl rfl rfl (by simp) (.nil (.condF rfl (.exit ?_)))
          rw [List.drop_zero, List.drop_zero, hva] at hq
          rw [List.drop_zero, hva] at hr
          exact ⟨rfl, (l, r), look_cons rfl (look_cons rfl look_nil), hB, hF, hl, hq, hr⟩
        | succ i =>
          rw [show (((i + 1 : Nat) : Int) - 1) = (i : Int) by omega]
          have hx := digH_getD hda i
          have hget := getD_get (l := a) (k := i) (by omega)
          have hdr := valH_drop (l := a) (k := i) (by omega)
          have hst := div_step (D := valH (a.drop (i + 1))) (x := a.getD i 0) (by omega : 0 < d) hq hr
          rw [← hdr] at hst
          generalize a.getD i 0 = x at *
          refine .geqT rfl rfl rfl (by omega) (.nil (.condT rfl (.skip (.seq (.block (.seq (.region (.mv rfl rfl (.mul rfl rfl rfl (.mv rfl rfl (.mv rfl rfl ?_)))))))))))
          refine .ixN (i := i) un_H ty_int rfl rfl (hA hB) rfl hget fun p hp => .ldE ty_int rfl rfl hp fun e he => ?_
          obtain ⟨rfl, _⟩ := he
          refine .add rfl rfl rfl (.asg rfl rfl (.nil ?_))
          rw [wI (n := (r : Int) * 65536) (by omega), wI (by omega), show (r : Int) * 65536 + (x : Int) = ((x + 65536 * r : Nat) : Int) by omega]
          generalize hy : x + 65536 * r = y at *
          have hyq : y / d < 65536 := by
            rw [Nat.div_lt_iff_lt_mul (by omega)]
            have : 65536 * (r + 1) ≤ 65536 * d := Nat.mul_le_mul_left _ hrd
            omega
          have hyr : y % d < d := Nat.mod_lt _ (by omega)
          obtain ⟨ad, cb, hvbs, _, hpt⟩ := RL.at_ (hBb hB) hgetb
          obtain ⟨eb, ⟨rfl, _⟩, hadS, hadc⟩ := hpt
          have hcell : W.cell? (ad.add (0 * 1)) = some (.int .i64 (d : Nat)) := hadc 0 _ rfl
          rw [block_add] at hadS
          have hkeep : ∀ {W' : World}, W'.heap[ad.block]? = W.heap[ad.block]? → W'.cell? (ad.add (0 * 1)) = some (.int .i64 (d : Nat)) := fun h => (cell_same (p := ad.add (0 * 1)) (by rw [block_add]; exact h)).trans hcell
          refine .held follows false (fun W' => W'.cell? (ad.add (0 * 1)) = some (.int .i64 (d : Nat))) [some _, some _, some _, some vb, some (.pointer (some (ad.add (0 * 1)))), some (.int .i64 (d : Nat)), some (.int .i64 ((y / d : Nat) : Int)), some _, some vb, some (.pointer (some (ad.add (0 * 1)))), some (.int .i64 (d : Nat)), some (.int .i64 ((y % d : Nat) : Int)), none, none, none] (by kernel_rfl) ⟨
            fun _ _ => v_mv rfl, fun _ _ => v_mv rfl, fun _ _ => v_mv rfl, fun _ _ => v_mv rfl,
            fun _ _ => v_ixA (i := 0) un_H ty_int (by rw [← hvbs]; rfl) rfl (by omega), fun _ h => v_ldP ty_int rfl h, fun _ _ => (v_quo rfl rfl (by omega)).eq (by rw [tdiv_nat, wI (by have h0 : (0 : Int) ≤ ((y / d : Nat) : Int) := Int.natCast_nonneg _; omega)]),
            fun _ _ => v_mv rfl, fun _ _ => v_mv rfl,
            fun _ _ => v_ixA (i := 0) un_H ty_int (by rw [← hvbs]; rfl) rfl (by omega), fun _ h => v_ldP ty_int rfl h, fun _ _ => (v_rem rfl rfl (by omega)).eq (by rw [tmod_nat]), trivial⟩ ?_
          intro W1 e1 hh1
          have hB1 : Below w.heap.size w W1 := hB.trans (e1.mono hsz)
          have hI1 := hkeep (W' := W1) (by rw [hh1])
          refine .gv hI1 rfl (v_ixB (i := i) un_H ty_int rfl rfl (by omega)).gv ?_
          rintro _ W1' ⟨rfl, hW1'⟩
          have hW1' := hW1'.symm
          subst hW1'
          refine .gv hI1 rfl (g_storeF (E := eH) (i := i) (z := y / d) (by decide) ty_int rfl rfl (hF.ext e1) rfl (by omega) (Nat.zero_add _) ⟨rfl, hyq⟩) ?_
          rintro _ W2 ⟨hF2, u2⟩
          have hI2 := hkeep (W' := W2) (by rw [u2.block ad.block (by have := hadS.2; omega), hh1])
          refine .gv hI2 rfl (v_as rfl).gv ?_
          rintro _ W2' ⟨rfl, hW2'⟩
          have hW2' := hW2'.symm
          subst hW2'
          refine .nil (.inr hI2) ?_
          refine .region (.mv rfl rfl (.sub rfl rfl rfl (.asg rfl rfl (.nil ?_))))
          rw [wI (by omega)]
          refine ⟨rfl, (i, l.set i (y / d), y % d), look_cons rfl (look_cons rfl (look_cons rfl (look_cons rfl (look_cons rfl look_nil)))), ⟨u2.below hB1 (by omega), by show i ≤ a.length; omega, hF2, by show (l.set i _).length = _; simpa using hl, ?_, hst.2.symm⟩, by show i < i + 1; omega⟩
          show valH ((l.set i (y / d)).drop i) = valH (a.drop i) / d
          rw [valH_set_drop (by omega), hst.1]
    · rintro ⟨l, r⟩ W ⟨hB, hF, hl, hq, hr⟩
      replace hF : FB eH 3 S W g l := hF
      replace hl : l.length = a.length := hl
      replace hq : valH l = m / d := hq
      replace hr : r = m % d := hr
      have hrd : r < d := by rw [hr]; exact Nat.mod_lt _ (by omega)
      refine .seq (.region (.mv rfl rfl ?_))
      refine .call _ rfl E_ref01_trim rfl (ref01_trim_c (hout hF hl)) fun v2 W2 e2 h2 => .mv rfl rfl (.bsl _ rfl rfl bsl_H1 fun W3 b3 n3 => ?_)
      have hB2 : Below w.heap.size w W2 := hB.trans (e2.mono hB.size)
      rw [trimH (FBH_dig hF), hq] at h2
      have hdr : digH [r] := by intro x hx; simp at hx; omega
      have ho3 : OwnH 3 W2.heap.size W3 (.slice (some ⟨b3, 0, none⟩) 1 1) [r] := OwnH.lit (l := [r]) n3 (Nat.le_refl _) hdr (by simp)
      refine .call _ rfl E_ref01_trim rfl (ref01_trim_c (S := S) (ho3.toR (fun k hk => up k (by have := hB2.size; omega)))) fun v4 W4 e4 h4 => .asg rfl rfl (.asg rfl rfl (.nil (.ret ?_)))
      rw [trimH hdr, show valH [r] = m % d by simp [valH, hr]] at h4
      have e24 := n3.1.trans e4
      exact .plain [_, _] Tryz.results164 ⟨rfl, rfl, trivial⟩ ⟨hB2.trans (e24.mono hB2.size), v2, v4, rfl, ER.ext eHs h2 e24, h4⟩
  · refine .eqlF rfl rfl rfl (by omega) (.nil (.condF rfl (.skip (.seq (.region (.asg rfl rfl (.nil ?_)))))))
    have hb2 : 2 ≤ b.length := by omega
    refine .mid (α := List Nat × Value) (fun p => [(6, .slice (some ⟨g, 0, none⟩) a.length a.length), (9, p.2)]) (fun p W => Below w.heap.size w W ∧ FB eH 3 S W g p.1 ∧ p.1.length = a.length ∧ valH p.1 = m / d ∧ eHs.R (fun k => S k ∧ k ≠ g) W p.2 (hds (m % d))) ?_ ?_
    · refine .seq (.region (.mv rfl rfl (.lenR un_H rfl rfl (hA e1) (.sub rfl rfl rfl (.asg rfl rfl (.nil ?_))))))
      rw [wI (by omega)]
      refine .block (.loop (α := Nat × List Nat × Value) (fun x => [(0, va), (1, vb), (6, .slice (some ⟨g, 0, none⟩) a.length a.length), (9, x.2.2), (10, .int .i64 ((x.1 : Nat) - 1 : Int))])
        (fun x W => Below w.heap.size w W ∧ x.1 ≤ a.length ∧ FB eH 3 S W g x.2.1 ∧ x.2.1.length = a.length ∧ valH (x.2.1.drop x.1) = valH (a.drop x.1) / d ∧ eHs.R (fun k => S k ∧ k ≠ g) W x.2.2 (hds (valH (a.drop x.1) % d))) (fun x => x.1) (a.length, List.replicate a.length 0, .slice none 0 0) ?_ ?_ ?_)
      · exact look_cons rfl (look_cons rfl (look_cons rfl (look_cons rfl (look_cons rfl look_nil))))
      · refine ⟨e1, Nat.le_refl _, f1, by simp, ?_, ?_⟩
        · show valH ((List.replicate a.length 0).drop a.length) = _
          rw [List.drop_eq_nil_of_le (by simp), List.drop_eq_nil_of_le (Nat.le_refl _)]; simp [valH]
        · show eHs.R _ _ _ (hds (valH (a.drop a.length) % d))
          rw [List.drop_eq_nil_of_le (Nat.le_refl _), valH, Nat.zero_mod, hds_zero]; exact RL.nil
      · rintro ⟨j, l, u⟩ W ⟨hB, hj, hF, hl, hq, hu⟩
        replace hB : Below w.heap.size w W := hB
        replace hj : j ≤ a.length := hj
        replace hF : FB eH 3 S W g l := hF
        replace hl : l.length = a.length := hl
        replace hq : valH (l.drop j) = valH (a.drop j) / d := hq
        replace hu : eHs.R (fun k => S k ∧ k ≠ g) W u (hds (valH (a.drop j) % d)) := hu
        refine .weak [(0, va), (1, vb), (6, .slice (some ⟨g, 0, none⟩) a.length a.length), (9, u), (10, .int .i64 ((j : Nat) - 1 : Int))] (fun t v h => h) ?_
        have hsz := hB.size
        have hgl := hF.lt
        refine .seq (.seq (.region (.mv rfl rfl ?_)))
        cases j with
        | zero =>
          refine .geqF rfl rfl rfl (by simp) (.nil (.condF rfl (.exit ?_)))
          rw [List.drop_zero, List.drop_zero, hva] at hq
          rw [List.drop_zero, hva] at hu
          exact ⟨rfl, (l, u), look_cons rfl (look_cons rfl look_nil), hB, hF, hl, hq, hu⟩
        | succ i =>
          rw [show (((i + 1 : Nat) : Int) - 1) = (i : Int) by omega]
          have hx := digH_getD hda i
          have hget := getD_get (l := a) (k := i) (by omega)
          have hdr := valH_drop (l := a) (k := i) (by omega)
          have hst := div_step (D := valH (a.drop (i + 1))) (x := a.getD i 0) (by omega : 0 < d) hq rfl
          rw [← hdr] at hst
          generalize a.getD i 0 = x at *
          have hR : valH (a.drop (i + 1)) % d < d := Nat.mod_lt _ (by omega)
          generalize hRR : valH (a.drop (i + 1)) % d = R at *
          have hRl : (hds R).length ≤ b.length := hds_length (Nat.lt_trans hR hblt)
          have upT : ∀ {W' : World}, Below w.heap.size w W' → g < W'.heap.size → Up (fun k => S k ∧ k ≠ g) W' := fun hB' hg' k hk => ⟨up k (by have := hB'.size; omega), by omega⟩
          refine .geqT rfl rfl rfl (by omega) (.nil (.condT rfl (.skip (.seq (.block (.seq (.region (.mv rfl rfl (.mv rfl rfl ?_)))))))))
          refine .ixN (i := i) un_H ty_int rfl rfl (hA hB) rfl hget fun p hp => .ldE ty_int rfl rfl hp fun e he => ?_
          obtain ⟨rfl, _⟩ := he
          refine .bsl _ rfl rfl bsl_H1 fun W1 b1 n1 => .mv rfl rfl ?_
          have ho1 : OwnH 3 W.heap.size W1 (.slice (some ⟨b1, 0, none⟩) 1 1) [x] := OwnH.lit (l := [x]) n1 (Nat.le_refl _) (by intro y hy; simp at hy; omega) (by simp)
          refine .gv rfl rfl (g_appHs (base := W.heap.size) un_H info_int rfl rfl ho1 (hu.ext n1.1) (by simp) (by omega) n1.1.size) ?_
          rintro v2 W2 ⟨ho2, hB2⟩
          have e2 : Ext W W2 := Below.trans n1.1 hB2
          have hs2 := e2.size
          have hu2 : eHs.R (fun k => S k ∧ k ≠ g) W2 v2 ([x] ++ hds R) := ho2.toR (fun k hk => ⟨up k (by omega), by omega⟩)
          refine .call _ rfl E_ref01_trim rfl (ref01_trim_c hu2) fun v3 W3 e3 h3 => .asg rfl rfl (.nil (.seq (.region (.asg rfl rfl (.asg rfl rfl (.nil ?_))))))
          have hv3 : valH ([x] ++ hds R) = x + 65536 * R := by show valH (x :: hds R) = _; rw [valH, valH_hds]
          rw [trimH (eH_dig hu2), hv3] at h3
          have e23 := e2.trans e3
          have hs3 := e23.size
          have hB3 : Below w.heap.size w W3 := hB.trans (e23.mono hsz)
          generalize hy : x + 65536 * R = y at *
          have hyd : y < 65536 * d := by
            have : 65536 * (R + 1) ≤ 65536 * d := Nat.mul_le_mul_left _ hR
            omega
          have hylen : (hds y).length ≤ b.length + 1 := hds_length (by rw [Nat.pow_succ]; omega)
          -- between lo and hi
          refine .mid (α := Nat) (fun hi => [(0, va), (1, vb), (6, .slice (some ⟨g, 0, none⟩) a.length a.length), (9, v3), (10, .int .i64 (i : Nat)), (11, .int .i64 0), (12, .int .i64 (hi : Nat))]) (fun hi W' => W' = W3 ∧ 1 ≤ hi ∧ hi ≤ 65536 ∧ y < hi * d) ?_ ?_
          · refine .seq (.region (.mv rfl rfl (.lenR un_H rfl rfl h3 (.mv rfl rfl (.lenR un_H rfl rfl (hBb hB3) ?_)))))
            by_cases hll : (hds y).length < b.length
            · refine .lssT rfl rfl rfl (by omega) (.nil (.condT rfl (.region (.asg rfl rfl (.nil ?_)))))
              refine ⟨rfl, 1, look_cons rfl (look_cons rfl (look_cons rfl (look_cons rfl (look_cons rfl (look_cons rfl (look_cons rfl look_nil)))))), rfl, Nat.le_refl _, by omega, ?_⟩
              have h1 := hds_lt y
              have h2 : 65536 ^ (hds y).length ≤ 65536 ^ (b.length - 1) := Nat.pow_le_pow_right (by omega) (by omega)
              omega
            · refine .lssF rfl rfl rfl (by omega) (.nil (.condF rfl (.skip ?_)))
              exact ⟨rfl, 65536, look_cons rfl (look_cons rfl (look_cons rfl (look_cons rfl (look_cons rfl (look_cons rfl (look_cons rfl look_nil)))))), rfl, by omega, Nat.le_refl _, hyd⟩
          · rintro hi0 W3' ⟨hW3', hi1, hi2, hyhi⟩
            have hW3' := hW3'.symm
            subst hW3'
            refine .mid (α := Nat) (fun lo => [(0, va), (1, vb), (6, .slice (some ⟨g, 0, none⟩) a.length a.length), (9, v3), (10, .int .i64 (i : Nat)), (11, .int .i64 (lo : Nat))]) (fun lo W' => Ext W3 W' ∧ lo < 65536 ∧ lo = y / d) ?_ ?_
            · refine .block (.loop (α := Nat × Nat) (fun z => [(0, va), (1, vb), (6, .slice (some ⟨g, 0, none⟩) a.length a.length), (9, v3), (10, .int .i64 (i : Nat)), (11, .int .i64 (z.1 : Nat)), (12, .int .i64 (z.2 : Nat))]) (fun z W' => Ext W3 W' ∧ z.1 < z.2 ∧ z.2 ≤ 65536 ∧ z.1 * d ≤ y ∧ y < z.2 * d) (fun z => z.2 - z.1) (0, hi0) ?_ ?_ ?_)
              · exact look_cons rfl (look_cons rfl (look_cons rfl (look_cons rfl (look_cons rfl (look_cons rfl (look_cons rfl look_nil))))))
              · exact ⟨.refl _, hi1, hi2, by show 0 * d ≤ y; omega, hyhi⟩
              · rintro ⟨lo, hi⟩ W4 ⟨e4, hlh, hh, hlo, hhi⟩
                replace e4 : Ext W3 W4 := e4
                replace hlh : lo < hi := hlh
                replace hh : hi ≤ 65536 := hh
                replace hlo : lo * d ≤ y := hlo
                replace hhi : y < hi * d := hhi
                refine .weak [(0, va), (1, vb), (6, .slice (some ⟨g, 0, none⟩) a.length a.length), (9, v3), (10, .int .i64 (i : Nat)), (11, .int .i64 (lo : Nat)), (12, .int .i64 (hi : Nat))] (fun t v h => h) ?_
                have hB4 : Below w.heap.size w W4 := hB3.trans (e4.mono hB3.size)
                have hs4 := e4.size
                refine .seq (.seq (.region (.mv rfl rfl (.mv rfl rfl (.sub rfl rfl rfl ?_)))))
                rw [wI (by omega)]
                by_cases hgo : lo + 1 < hi
                · refine .gtrT rfl rfl rfl (by omega) (.nil (.condT rfl (.skip (.block (.seq (.region (.mv rfl rfl (.mv rfl rfl (.add rfl rfl rfl (.quo rfl rfl rfl (by decide) (.asg rfl rfl (.nil ?_))))))))))))
                  rw [wI (n := (lo : Int) + (hi : Int)) (by omega), show ((lo : Int) + (hi : Int)).tdiv 2 = (((lo + hi) / 2 : Nat) : Int) by rw [← Int.natCast_add]; exact tdiv_nat (lo + hi) 2, wI (by omega)]
                  generalize hmid : (lo + hi) / 2 = mid at *
                  refine .seq (.region (.mv rfl rfl (.mv rfl rfl ?_)))
                  have hbT : eHs.R (fun k => S k ∧ k ≠ g) W4 vb b := eHs.mono (fun k _ hk => ⟨hk.1, by have := hk.2; omega⟩) (hBb hB4)
                  refine .call _ rfl E_ref01_times rfl (ref01_times_c (upT hB4 (by omega)) hbT (by omega) (show mid ≤ 65536 by omega)) fun v5 W5 e5 h5 => .mv rfl rfl ?_
                  rw [hvb] at h5
                  have hml : (hds (d * mid)).length ≤ b.length + 1 := hds_length (by
                    rw [Nat.pow_succ]
                    have : d * mid ≤ d * 65536 := Nat.mul_le_mul_left _ (by omega)
                    omega)
                  refine .call _ rfl E_ref01_cmp rfl (ref01_cmp_c h5 ((h3.ext e4).ext e5) (by omega) (by omega)) fun v6 W6 e6 h6 => ?_
                  subst h6
                  rw [valH_hds, valH_hds, Nat.mul_comm d mid]
                  have e46 := (e4.trans e5).trans e6
                  by_cases hc : mid * d ≤ y
                  · refine .leqT rfl rfl rfl (by unfold cmpN; split <;> (try split) <;> omega) (.nil (.condT rfl (.region (.mv rfl rfl (.asg rfl rfl (.nil ?_))))))
                    exact ⟨rfl, (mid, hi), look_cons rfl (look_cons rfl (look_cons rfl (look_cons rfl (look_cons rfl (look_cons rfl (look_cons rfl look_nil)))))), ⟨e46, by show mid < hi; omega, hh, hc, hhi⟩, by show hi - mid < hi - lo; omega⟩
                  · refine .leqF rfl rfl rfl (by unfold cmpN; rw [if_neg (by omega), if_pos (by omega)]; decide) (.nil (.condF rfl (.region (.mv rfl rfl (.asg rfl rfl (.nil ?_))))))
                    exact ⟨rfl, (lo, mid), look_cons rfl (look_cons rfl (look_cons rfl (look_cons rfl (look_cons rfl (look_cons rfl (look_cons rfl look_nil)))))), ⟨e46, by show lo < mid; omega, by show mid ≤ 65536; omega, hlo, by show y < mid * d; omega⟩, by show mid - lo < hi - lo; omega⟩
                · refine .gtrF rfl rfl rfl (by omega) (.nil (.condF rfl (.exit ?_)))
                  refine ⟨rfl, lo, look_cons rfl (look_cons rfl (look_cons rfl (look_cons rfl (look_cons rfl (look_cons rfl look_nil))))), e4, by show lo < 65536; omega, ?_⟩
                  have h1 : hi = lo + 1 := by omega
                  rw [h1] at hhi
                  symm
                  exact (Nat.div_eq_iff (by omega)).2 ⟨by omega, by rw [Nat.add_mul] at hhi; omega⟩
            · rintro lo W4 ⟨e4, hlo, hlod⟩
              have hB4 : Below w.heap.size w W4 := hB3.trans (e4.mono hB3.size)
              have hs4 := e4.size
              have hbT : eHs.R (fun k => S k ∧ k ≠ g) W4 vb b := eHs.mono (fun k _ hk => ⟨hk.1, by have := hk.2; omega⟩) (hBb hB4)
              refine .region (.mv rfl rfl (.mv rfl rfl (.mv rfl rfl (.mv rfl rfl (.mv rfl rfl (.mv rfl rfl ?_))))))
              refine .call _ rfl E_ref01_times rfl (ref01_times_c (upT hB4 (by omega)) hbT (by omega) (show lo ≤ 65536 by omega)) fun v5 W5 e5 h5 => ?_
              rw [hvb] at h5
              have e45 := e4.trans e5
              have hB5 : Below w.heap.size w W5 := hB3.trans (e45.mono hB3.size)
              have hs5 := e5.size
              have hdl : d * lo ≤ y := by rw [hlod]; exact Nat.mul_div_le y d
              refine .call _ rfl E_ref01_sub rfl (ref01_sub_c (upT hB5 (by omega)) (h3.ext e45) h5 (by omega) (by rw [valH_hds, valH_hds]; exact hdl)) fun v6 W6 e6 h6 => ?_
              rw [valH_hds, valH_hds] at h6
              have hmod : y - d * lo = y % d := by rw [hlod]; have := Nat.div_add_mod y d; omega
              rw [hmod] at h6
              have e36 := e45.trans e6
              have hB6 : Below w.heap.size w W6 := hB3.trans (e36.mono hB3.size)
              have eW6 := e23.trans e36
              refine .ixB (i := i) un_H ty_int rfl rfl rfl (by omega) ?_
              refine .storeF (E := eH) (i := i) (z := lo) (by decide) ty_int rfl rfl (hF.ext eW6) rfl (by omega) (Nat.zero_add _) ⟨rfl, hlo⟩ fun W7 hF7 u7 => .asg rfl rfl (.nil ?_)
              refine .region (.mv rfl rfl (.sub rfl rfl rfl (.asg rfl rfl (.nil ?_))))
              rw [wI (by omega)]
              refine ⟨rfl, (i, l.set i lo, v6), look_cons rfl (look_cons rfl (look_cons rfl (look_cons rfl (look_cons rfl look_nil)))), ⟨u7.below hB6 (by omega), by show i ≤ a.length; omega, hF7, by show (l.set i _).length = _; simpa using hl, ?_, ?_⟩, by show i < i + 1; omega⟩
              · show valH ((l.set i lo).drop i) = valH (a.drop i) / d
                rw [valH_set_drop (by omega), hst.1, hlod]
              · show eHs.R _ W7 v6 (hds (valH (a.drop i) % d))
                rw [hst.2]
                exact ER.upd eHs h6 u7 (fun h => h.2 rfl)
    · rintro ⟨l, u⟩ W ⟨hB, hF, hl, hq, hu⟩
      replace hF : FB eH 3 S W g l := hF
      replace hl : l.length = a.length := hl
      replace hq : valH l = m / d := hq
      replace hu : eHs.R (fun k => S k ∧ k ≠ g) W u (hds (m % d)) := hu
      refine .seq (.region (.mv rfl rfl ?_))
      refine .call _ rfl E_ref01_trim rfl (ref01_trim_c (hout hF hl)) fun v2 W2 e2 h2 => .mv rfl rfl (.asg rfl rfl (.asg rfl rfl (.nil (.ret ?_))))
      rw [trimH (FBH_dig hF), hq] at h2
      exact .plain [_, _] Tryz.results164 ⟨rfl, rfl, trivial⟩ ⟨hB.trans (e2.mono hB.size), v2, u, rfl, h2, eHs.mono (fun k _ hk => hk.1) (ER.ext eHs hu e2)⟩
end Go.Proofs.YtccmemilofoamaaGreat

namespace Go.Kx
theorem sg_neg (n : Bool) (v : Nat) : sg (!n) v = -(sg n v) := by cases n <;> simp [sg]
theorem hds_add_len {A B K : Nat} (h1 : (hds A).length ≤ K) (h2 : (hds B).length ≤ K) : (hds (A + B)).length ≤ K + 1 := by
  have a1 := hds_lt A
  have a2 := hds_lt B
  have b1 : 65536 ^ (hds A).length ≤ 65536 ^ K := Nat.pow_le_pow_right (by omega) h1
  have b2 : 65536 ^ (hds B).length ≤ 65536 ^ K := Nat.pow_le_pow_right (by omega) h2
  exact hds_length (by rw [Nat.pow_succ]; omega)
theorem sign_sg {n : Bool} {v : Nat} (h : v ≠ 0) : (sg n v).sign = if n then -1 else 1 := by
  cases n
  · simp only [sg, Bool.false_eq_true, if_false]; rw [Int.sign_eq_one_of_pos (by omega)]
  · simp only [sg, if_true]; rw [Int.sign_eq_neg_one_of_neg (by omega)]
theorem zval_mk (z : ZV) : zval z = sg z.neg (val z.w) := rfl
theorem hlv_len_le {l : List Nat} {L : Nat} (h : l.length ≤ L) : (hds (val l)).length ≤ 2 * L ∨ ¬ dig l := by
  by_cases hd : dig l
  · left
    have h1 := valH_lt (digH_hlv hd)
    rw [valH_hlv, hlv_length] at h1
    have := hds_length h1
    omega
  · exact .inr hd
end Go.Kx
namespace Go.Proofs.YtccmemilofoamaaGreat
open Go Go.Kx Go.RowKit

/-- the digits of an integer's words -/
theorem ref01_hv_c {S : Nat → Prop} {w : World} {v : Value} {l : List Nat} (up : Up S w) (h : eW.R S w v l) (hl : l.length ≤ 1000000000) : CR Tryz.prog 146 #[v] w (eHs.at S (hds (val l))) := by
  have := ref01_halves_c up h (by omega)
  rwa [trimH (digH_hlv (eW_lt h)), valH_hlv] at this
theorem hv_len {S : Nat → Prop} {w : World} {v : Value} {l : List Nat} (h : eW.R S w v l) (hl : l.length ≤ 1000000000) : (hds (val l)).length ≤ 2000000000 := by
  rcases hlv_len_le hl with h' | h'
  · exact h'
  · exact absurd (eW_lt h) h'
theorem E_ref01_Sign : Ent Tryz.prog 121 := ent_of Tryz.func121 (by kernel_rfl) rfl
theorem ref01_Sign_c {S : Nat → Prop} {w : World} {v : Value} {a : ZV} (up : Up S w) (h : eZ.R S w v a) (hl : a.w.length ≤ 1000000000) : CR Tryz.prog 121 #[v] w (Is (.int .i64 (zval a).sign)) := by
  obtain ⟨s, rfl, hs⟩ := h
  refine enter Tryz.func121 rfl Tryz.ntmps121 rfl ?_
  refine .seq (.region (.box rfl rfl fun w1 b1 n1 => .asg rfl rfl (.nil ?_)))
  obtain ⟨e1, k1, hb1, hs1⟩ := n1
  refine .seq (.seq (.region (.fa fld_Z1 rfl rfl (.ld ty_W rfl rfl k1 rfl ?_))))
  refine .call _ rfl E_ref01_halves rfl (ref01_hv_c (up.ext e1.size) (hs.ext e1) hl) fun v2 w2 e2 h2 => .lenR un_H rfl rfl h2 ?_
  have x2 := e1.trans e2
  by_cases h0 : val a.w = 0
  · rw [h0, hds_zero]
    refine .eqlT rfl rfl rfl rfl (.nil (.condT rfl (.seq (.region (.asg rfl rfl (.nil (.ret ?_)))))))
    refine .plain [_] Tryz.results121 ⟨rfl, trivial⟩ ⟨x2, isI ?_⟩
    rw [zval_mk, h0]; cases a.neg <;> rfl
  · have hne : (hds (val a.w)).length ≠ 0 := fun e => h0 (hds_eq_nil.1 (List.length_eq_zero_iff.1 e))
    refine .eqlF rfl rfl rfl (by omega) (.nil (.condF rfl (.skip ?_)))
    refine .seq (.seq (.region (.fa fld_Z0 rfl rfl (.ld ty_bool rfl rfl (k1.ext e2) rfl (.nil ?_)))))
    have hz : (zval a).sign = if a.neg then -1 else 1 := by rw [zval_mk]; exact sign_sg h0
    cases hn : a.neg with
    | true =>
      rw [hn] at hz
      refine .condT rfl (.seq (.region (.asg rfl rfl (.nil (.ret ?_)))))
      exact .plain [_] Tryz.results121 ⟨rfl, trivial⟩ ⟨x2, isI (by rw [hz]; rfl)⟩
    | false =>
      rw [hn] at hz
      refine .condF rfl (.skip (.seq (.region (.asg rfl rfl (.nil (.ret ?_))))))
      exact .plain [_] Tryz.results121 ⟨rfl, trivial⟩ ⟨x2, isI (by rw [hz]; rfl)⟩

theorem E_ref01_Neg : Ent Tryz.prog 109 := ent_of Tryz.func109 (by kernel_rfl) rfl
theorem ref01_Neg_c {S : Nat → Prop} {w : World} {v : Value} {a : ZV} (up : Up S w) (h : eZ.R S w v a) (hl : a.w.length ≤ 1000000000) : CR Tryz.prog 109 #[v] w (eZ.at S (zc (-zval a))) := by
  obtain ⟨s, rfl, hs⟩ := h
  refine enter Tryz.func109 rfl Tryz.ntmps109 rfl ?_
  refine .seq (.region (.box rfl rfl fun w1 b1 n1 => .alloc rfl zero_Z fun w2 b2 n2 => .nil ?_))
  obtain ⟨e1, k1, hb1, hs1⟩ := n1
  obtain ⟨e2, k2, hb2, hs2⟩ := n2
  have x2 := e1.trans e2
  have k1 := k1.ext e2
  have hS2 : ¬ Sx S w.heap.size w2.heap.size b2 := Sx.no (by omega) (by omega)
  have up2 : Up (Sx S w.heap.size w2.heap.size) w2 := Sx.up up (Nat.le_refl _) x2.size
  have hs2' := (ER.par eW hs w2.heap.size).ext x2
  refine .seq ?_
  refine .par follows 6 [.inl _, .inl (.bool a.neg), .inl _, .inl _, .inl s, .inr (eHs.at (Sx S w.heap.size w2.heap.size) (hds (val a.w)))] [[], [(3, 0)], [(4, 1)], [], [(6, 3)], [(7, 4)]] (by kernel_rfl) ⟨
    fun w e => (v_fa fld_Z0 rfl).ob, fun w e => (v_ld ty_bool rfl (k1.ext e) rfl).ob, fun w e => (v_not rfl).ob, fun w e => (v_fa fld_Z1 rfl).ob, fun w e => (v_ld ty_W rfl (k1.ext e) rfl).ob,
    fun w e => (g_call _ E_ref01_halves rfl (ref01_hv_c (up2.ext e.size) (hs2'.ext e) hl)).ob (st_at _ _ _), trivial⟩ ?_
  intro w3 e3 x5 hx5
  have hlen := hv_len hs hl
  refine .call _ rfl E_ref01_of rfl (ref01_of_c (up2.ext e3.size) hx5 (by omega)) fun v4 w4 e4 h4 => ?_
  rw [valH_hds, sg_neg, ← zval_mk] at h4
  refine .storeA (E := eZ) ty_Z rfl rfl ((k2.ext e3).ext e4) rfl rfl h4 hS2 fun w5 k5 u5 h5 => .nil (.ret ?_)
  exact .cell Tryz.results109 rfl ty_Z rfl rfl k5 h5 ⟨u5.below ((x2.trans e3).trans e4) (by omega), h5.out⟩

theorem E_ref01_Abs : Ent Tryz.prog 147 := ent_of Tryz.func147 (by kernel_rfl) rfl
theorem ref01_Abs_c {S : Nat → Prop} {w : World} {v : Value} {a : ZV} (up : Up S w) (h : eZ.R S w v a) (hl : a.w.length ≤ 1000000000) : CR Tryz.prog 147 #[v] w (eZ.at S (zc (val a.w))) := by
  obtain ⟨s, rfl, hs⟩ := h
  refine enter Tryz.func147 rfl Tryz.ntmps147 rfl ?_
  refine .seq (.region (.box rfl rfl fun w1 b1 n1 => .alloc rfl zero_Z fun w2 b2 n2 => .nil ?_))
  obtain ⟨e1, k1, hb1, hs1⟩ := n1
  obtain ⟨e2, k2, hb2, hs2⟩ := n2
  have x2 := e1.trans e2
  have k1 := k1.ext e2
  have hS2 : ¬ Sx S w.heap.size w2.heap.size b2 := Sx.no (by omega) (by omega)
  have up2 : Up (Sx S w.heap.size w2.heap.size) w2 := Sx.up up (Nat.le_refl _) x2.size
  have hs2' := (ER.par eW hs w2.heap.size).ext x2
  refine .seq (.region (.fa fld_Z1 rfl rfl (.ld ty_W rfl rfl k1 rfl ?_)))
  refine .call _ rfl E_ref01_halves rfl (ref01_hv_c up2 hs2' hl) fun v3 w3 e3 h3 => ?_
  have hlen := hv_len hs hl
  refine .call _ rfl E_ref01_of rfl (ref01_of_c (up2.ext e3.size) h3 (by omega)) fun v4 w4 e4 h4 => ?_
  rw [valH_hds] at h4
  refine .storeA (E := eZ) ty_Z rfl rfl ((k2.ext e3).ext e4) rfl rfl h4 hS2 fun w5 k5 u5 h5 => .nil (.ret ?_)
  exact .cell Tryz.results147 rfl ty_Z rfl rfl k5 h5 ⟨u5.below ((x2.trans e3).trans e4) (by omega), h5.out⟩

end Go.Proofs.YtccmemilofoamaaGreat

namespace Go.Kx
theorem gcd_step (a b : Nat) : Nat.gcd b (a % b) = Nat.gcd a b := by rw [Nat.gcd_comm b (a % b), ← Nat.gcd_rec, Nat.gcd_comm]
theorem cmpZ_sign {a b : ZV} (hs : (zval a).sign = (zval b).sign) : cmpI (zval a) (zval b) = if (zval a).sign < 0 then 0 - cmpN (val a.w) (val b.w) else cmpN (val a.w) (val b.w) := by
  have h1 := zval_natAbs a
  have h2 := zval_natAbs b
  generalize zval a = x at *
  generalize zval b = y at *
  rw [← h1, ← h2]
  rcases Int.lt_trichotomy x 0 with h | h | h
  · have e := Int.sign_eq_neg_one_of_neg h
    rw [e] at hs ⊢
    have hy : y < 0 := Int.sign_eq_neg_one_iff_neg.1 hs.symm
    rw [if_pos (by decide)]
    unfold cmpI cmpN
    split <;> split <;> (try split) <;> (try split) <;> omega
  · subst h
    rw [Int.sign_zero] at hs ⊢
    have hy : y = 0 := Int.sign_eq_zero_iff_zero.1 hs.symm
    subst hy
    decide
  · have e := Int.sign_eq_one_of_pos h
    rw [e] at hs ⊢
    have hy : 0 < y := Int.sign_eq_one_iff_pos.1 hs.symm
    rw [if_neg (by decide)]
    unfold cmpI cmpN
    split <;> split <;> (try split) <;> (try split) <;> omega
theorem cmpI_ne {x y : Int} (hs : x.sign ≠ y.sign) : cmpI x y = if x.sign < y.sign then -1 else 1 := by
  have hx := Int.lt_trichotomy x 0
  have hy := Int.lt_trichotomy y 0
  unfold cmpI
  rcases hx with h | h | h <;> rcases hy with h' | h' | h' <;> first
    | (rw [Int.sign_eq_neg_one_of_neg h, Int.sign_eq_neg_one_of_neg h'] at hs; exact absurd rfl hs)
    | (rw [Int.sign_eq_one_of_pos h, Int.sign_eq_one_of_pos h'] at hs; exact absurd rfl hs)
    | (rw [h, h'] at hs; exact absurd rfl hs)
    | (simp only [h, h', Int.sign_eq_neg_one_of_neg, Int.sign_eq_one_of_pos, Int.sign_zero]; (try split) <;> (try split) <;> (try simp_all) <;> omega)
end Go.Kx
namespace Go.Proofs.YtccmemilofoamaaGreat
open Go Go.Kx Go.RowKit

theorem E_ref01_Gcd : Ent Tryz.prog 141 := ent_of Tryz.func141 (by kernel_rfl) rfl
theorem ref01_Gcd_c {S : Nat → Prop} {w : World} {va vb : Value} {a b : ZV} (up : Up S w) (ha : eZ.R S w va a) (hb : eZ.R S w vb b) (hla : a.w.length ≤ 1000000000) (hlb : b.w.length ≤ 1000000000) : CR Tryz.prog 141 #[va, vb] w (eZ.at S (zc (Nat.gcd (val a.w) (val b.w) : Nat))) := by
  obtain ⟨s, rfl, hs⟩ := ha
  obtain ⟨t, rfl, ht⟩ := hb
  refine enter Tryz.func141 rfl Tryz.ntmps141 rfl ?_
  refine .seq (.region (.box rfl rfl fun w1 b2 n1 => .box rfl rfl fun w2 b3 n2 => .alloc rfl zero_Z fun w3 b4 n3 => .nil ?_))
  obtain ⟨e1, k2, hb2, hs1⟩ := n1
  obtain ⟨e2, k3, hb3, hs2⟩ := n2
  obtain ⟨e3, k4, hb4, hs3⟩ := n3
  have x3 := (e1.trans e2).trans e3
  have k2 := (k2.ext e2).ext e3
  have k3 := k3.ext e3
  have hS4 : ¬ Sx S w.heap.size w3.heap.size b4 := Sx.no (by omega) (by omega)
  have up3 : Up (Sx S w.heap.size w3.heap.size) w3 := Sx.up up (Nat.le_refl _) x3.size
  have hs' := (ER.par eW hs w3.heap.size).ext x3
  have ht' := (ER.par eW ht w3.heap.size).ext x3
  have l1 := hv_len hs hla
  have l2 := hv_len ht hlb
  have hout : ∀ {W : World} {v : Value} {z : ZV}, eZ.R (Sx S w.heap.size w3.heap.size) W v z → eZ.R S W v z := fun h => h.out
  generalize hT : Sx S w.heap.size w3.heap.size = T at *
  refine .seq ?_
  refine .par follows 6 [.inl _, .inl s, .inr (eHs.at T (hds (val a.w))), .inl _, .inl t, .inr (eHs.at T (hds (val b.w)))] [[], [(9, 0)], [(10, 1)], [], [(12, 3)], [(13, 4)]] (by kernel_rfl) ⟨
    fun w e => (v_fa fld_Z1 rfl).ob, fun w e => (v_ld ty_W rfl (k2.ext e) rfl).ob, fun w e => (g_call _ E_ref01_halves rfl (ref01_hv_c (up3.ext e.size) (hs'.ext e) hla)).ob (st_at _ _ _),
    fun w e => (v_fa fld_Z1 rfl).ob, fun w e => (v_ld ty_W rfl (k3.ext e) rfl).ob, fun w e => (g_call _ E_ref01_halves rfl (ref01_hv_c (up3.ext e.size) (ht'.ext e) hlb)).ob (st_at _ _ _), trivial⟩ ?_
  intro w4 e4 x hx y hy
  refine .asg rfl rfl (.asg rfl rfl (.nil ?_))
  generalize val a.w = A at *
  generalize val b.w = B at *
  refine .mid (α := Value) (fun p => [(4, .pointer (some ⟨b4, 0, none⟩)), (5, p)]) (fun p W => Ext w4 W ∧ eHs.R T W p (hds (Nat.gcd A B))) ?_ ?_
  · refine .block (.loop (α := (Nat × Nat) × Value × Value) (fun p => [(4, .pointer (some ⟨b4, 0, none⟩)), (5, p.2.1), (6, p.2.2)])
      (fun p W => Ext w4 W ∧ eHs.R T W p.2.1 (hds p.1.1) ∧ eHs.R T W p.2.2 (hds p.1.2) ∧ (hds p.1.1).length ≤ 2000000000 ∧ (hds p.1.2).length ≤ 2000000000 ∧ Nat.gcd p.1.1 p.1.2 = Nat.gcd A B) (fun p => p.1.2) ((A, B), x, y) ?_ ?_ ?_)
    · exact look_cons rfl (look_cons rfl (look_cons rfl look_nil))
    · exact ⟨.refl _, hx, hy, l1, l2, rfl⟩
    · rintro ⟨⟨m, n⟩, u, v⟩ W ⟨hW, hu, hv, hm, hn, hg⟩
      replace hW : Ext w4 W := hW
      replace hu : eHs.R T W u (hds m) := hu
      replace hv : eHs.R T W v (hds n) := hv
      replace hm : (hds m).length ≤ 2000000000 := hm
      replace hn : (hds n).length ≤ 2000000000 := hn
      replace hg : Nat.gcd m n = Nat.gcd A B := hg
      refine .weak [(4, .pointer (some ⟨b4, 0, none⟩)), (5, u), (6, v)] (fun t v h => h) ?_
      refine .seq (.seq (.region (.mv rfl rfl (.lenR un_H rfl rfl hv ?_))))
      by_cases h0 : n = 0
      · subst h0
        rw [hds_zero]
        refine .gtrF rfl rfl rfl (by simp) (.nil (.condF rfl (.exit ?_)))
        rw [Nat.gcd_zero_right] at hg
        exact ⟨rfl, u, look_cons rfl (look_cons rfl look_nil), hW, hg ▸ hu⟩
      · have hne : (hds n).length ≠ 0 := fun e => h0 (hds_eq_nil.1 (List.length_eq_zero_iff.1 e))
        refine .gtrT rfl rfl rfl (by omega) (.nil (.condT rfl (.skip (.block (.seq (.region (.mv rfl rfl (.mv rfl rfl ?_))))))))
        refine .call _ rfl E_ref01_div rfl (ref01_div_c ((up3.ext e4.size).ext hW.size) hu hv (by omega) (by omega) h0) fun z W2 f2 h2 => ?_
        obtain ⟨vq, vr, rfl, hq, hr⟩ := h2
        refine .mv rfl rfl (.ext rfl rfl rfl (.ext rfl rfl rfl (.asg rfl rfl (.asg rfl rfl (.nil ?_)))))
        refine .region (.mv rfl rfl (.mv rfl rfl (.asg rfl rfl (.asg rfl rfl (.nil ?_)))))
        have hlt : m % n < n := Nat.mod_lt _ (by omega)
        exact ⟨rfl, ((n, m % n), v, vr), look_cons rfl (look_cons rfl (look_cons rfl look_nil)), ⟨hW.trans f2, ER.ext eHs hv f2, hr, hn, Nat.le_trans (hds_len_mono (Nat.le_of_lt hlt)) hn, (gcd_step m n).trans hg⟩, hlt⟩
  · rintro u W ⟨hW, hu⟩
    have e5 := e4.trans hW
    have lg : (hds (Nat.gcd A B)).length ≤ 2000000001 := by
      have h1 : Nat.gcd A B ≤ A + B := by
        rcases Nat.eq_zero_or_pos A with h | h
        · subst h; rw [Nat.gcd_zero_left]; omega
        · have := Nat.gcd_le_left B h; omega
      exact Nat.le_trans (hds_len_mono h1) (hds_add_len l1 l2)
    refine .seq (.region (.mv rfl rfl ?_))
    refine .call _ rfl E_ref01_of rfl (ref01_of_c (up3.ext e5.size) hu (by omega)) fun v6 w6 e6 h6 => ?_
    rw [valH_hds] at h6
    have e56 := e5.trans e6
    refine .storeA (E := eZ) ty_Z rfl rfl (k4.ext e56) rfl rfl h6 hS4 fun w7 k7 u7 h7 => .nil (.ret ?_)
    exact .cell Tryz.results141 rfl ty_Z rfl rfl k7 h7 ⟨u7.below (x3.trans e56) (by omega), hout h7⟩

theorem E_ref01_Div : Ent Tryz.prog 142 := ent_of Tryz.func142 (by kernel_rfl) rfl
theorem ref01_Div_c {S : Nat → Prop} {w : World} {va vb : Value} {a b : ZV} (up : Up S w) (ha : eZ.R S w va a) (hb : eZ.R S w vb b) (hla : a.w.length ≤ 1000000000) (hlb : b.w.length ≤ 1000000000) (hb0 : zval b ≠ 0) :
    CR Tryz.prog 142 #[va, vb] w (Three (eZ.at S (zc (zval a / zval b))) (eZ.at S (zc (zval a % zval b))) (Is (.int .i64 0))) := by
  obtain ⟨s, rfl, hs⟩ := ha
  obtain ⟨t, rfl, ht⟩ := hb
  refine enter Tryz.func142 rfl Tryz.ntmps142 rfl ?_
  refine .seq (.region (.box rfl rfl fun w1 b2 n1 => .box rfl rfl fun w2 b3 n2 => .alloc rfl zero_Z fun w3 b4 n3 => .alloc rfl zero_Z fun w4 b5 n4 => .asg rfl rfl (.nil ?_)))
  obtain ⟨e1, k2, hb2, hs1⟩ := n1
  obtain ⟨e2, k3, hb3, hs2⟩ := n2
  obtain ⟨e3, k4, hb4, hs3⟩ := n3
  obtain ⟨e4, k5, hb5, hs4⟩ := n4
  have x4 := ((e1.trans e2).trans e3).trans e4
  have k2 := ((k2.ext e2).ext e3).ext e4
  have k3 := (k3.ext e3).ext e4
  have k4 := k4.ext e4
  have hS4 : ¬ Sx S w.heap.size w4.heap.size b4 := Sx.no (by omega) (by omega)
  have hS5 : ¬ Sx S w.heap.size w4.heap.size b5 := Sx.no (by omega) (by omega)
  have hne : b5 ≠ b4 := by omega
  have up4 : Up (Sx S w.heap.size w4.heap.size) w4 := Sx.up up (Nat.le_refl _) x4.size
  have hs' := (ER.par eW hs w4.heap.size).ext x4
  have ht' := (ER.par eW ht w4.heap.size).ext x4
  have l1 := hv_len hs hla
  have l2 := hv_len ht hlb
  have hout : ∀ {W : World} {v : Value} {z : ZV}, eZ.R (Sx S w.heap.size w4.heap.size) W v z → eZ.R S W v z := fun h => h.out
  generalize hT : Sx S w.heap.size w4.heap.size = T at *
  refine .seq ?_
  refine .par follows 6 [.inl _, .inl s, .inr (eHs.at T (hds (val a.w))), .inl _, .inl t, .inr (eHs.at T (hds (val b.w)))] [[], [(11, 0)], [(12, 1)], [], [(14, 3)], [(15, 4)]] (by kernel_rfl) ⟨
    fun w e => (v_fa fld_Z1 rfl).ob, fun w e => (v_ld ty_W rfl (k2.ext e) rfl).ob, fun w e => (g_call _ E_ref01_halves rfl (ref01_hv_c (up4.ext e.size) (hs'.ext e) hla)).ob (st_at _ _ _),
    fun w e => (v_fa fld_Z1 rfl).ob, fun w e => (v_ld ty_W rfl (k3.ext e) rfl).ob, fun w e => (g_call _ E_ref01_halves rfl (ref01_hv_c (up4.ext e.size) (ht'.ext e) hlb)).ob (st_at _ _ _), trivial⟩ ?_
  intro w5 e5 x hx y hy
  refine .asg rfl rfl (.asg rfl rfl (.nil ?_))
  have hB0 : 0 < val b.w := by
    rcases Nat.eq_zero_or_pos (val b.w) with h | h
    · exact absurd (by unfold zval sg; rw [h]; simp) hb0
    · exact h
  have eva := zval_mk a
  have evb := zval_mk b
  generalize val a.w = A at *
  generalize val b.w = B at *
  have hne0 : (hds B).length ≠ 0 := fun e => by have := hds_eq_nil.1 (List.length_eq_zero_iff.1 e); omega
  refine .seq (.seq (.region (.mv rfl rfl (.lenR un_H rfl rfl hy (.eqlF rfl rfl rfl (by omega) (.nil (.condF rfl (.skip ?_))))))))
  have up5 := up4.ext e5.size
  refine .seq (.region (.mv rfl rfl (.mv rfl rfl ?_)))
  refine .call _ rfl E_ref01_div rfl (ref01_div_c up5 hx hy (by omega) (by omega) (by omega)) fun z w6 e6 h6 => ?_
  obtain ⟨vq, vr, rfl, hq, hr⟩ := h6
  refine .mv rfl rfl (.ext rfl rfl rfl (.ext rfl rfl rfl (.asg rfl rfl (.asg rfl rfl (.nil ?_)))))
  have e56 := e5.trans e6
  have x6 := x4.trans e56
  have up6 := up5.ext e6.size
  have k2 := k2.ext e56
  have k3 := k3.ext e56
  have k4 := k4.ext e56
  have k5 := k5.ext e56
  have hy6 := ER.ext eHs hy e6
  have lq : (hds (A / B)).length ≤ 2000000000 := Nat.le_trans (hds_len_mono (Nat.div_le_self _ _)) l1
  have lr : (hds (A % B)).length ≤ 2000000000 := Nat.le_trans (hds_len_mono (Nat.mod_le _ _)) l1
  refine .mid (α := (Nat × Nat) × Value × Value) (fun z => [(2, .pointer (some ⟨b2, 0, none⟩)), (3, .pointer (some ⟨b3, 0, none⟩)), (4, .pointer (some ⟨b4, 0, none⟩)), (5, .pointer (some ⟨b5, 0, none⟩)), (9, z.2.1), (10, z.2.2)])
    (fun z W => Ext w6 W ∧ eHs.R T W z.2.1 (hds z.1.1) ∧ eHs.R T W z.2.2 (hds z.1.2) ∧ (hds z.1.1).length ≤ 2000000002 ∧ (hds z.1.2).length ≤ 2000000002 ∧ zval a / zval b = sg (a.neg != b.neg) z.1.1 ∧ zval a % zval b = sg false z.1.2) ?_ ?_
  · refine .seq (.region (.fa fld_Z0 rfl rfl (.ld ty_bool rfl rfl k2 rfl (.mv rfl rfl ?_))))
    cases hn : a.neg with
    | false =>
      refine .gs rfl rfl rfl rfl rfl (.gs rfl rfl rfl rfl rfl (.gs rfl rfl rfl rfl rfl (.pick rfl rfl rfl (.nil (.condF rfl (.skip ?_))))))
      obtain ⟨d1, d2⟩ := divmod_pos (p := false) (q := b.neg) (A := A) hB0 (.inl rfl)
      refine ⟨rfl, ((A / B, A % B), vq, vr), look_cons rfl (look_cons rfl (look_cons rfl (look_cons rfl (look_cons rfl (look_cons rfl look_nil))))), .refl _, hq, hr, Nat.le_trans lq (by omega), Nat.le_trans lr (by omega), ?_, ?_⟩
      · rw [eva, evb, hn]; exact d1
      · rw [eva, evb, hn]; exact d2
    | true =>
      refine .gr rfl rfl rfl rfl (.mv rfl rfl (.gr rfl rfl rfl rfl (.lenR un_H rfl rfl hr (.gr rfl rfl rfl rfl ?_))))
      by_cases h0 : A % B = 0
      · rw [h0, hds_zero]
        refine .gtrF rfl rfl rfl (by simp) (.pick rfl rfl rfl (.nil (.condF rfl (.skip ?_))))
        obtain ⟨d1, d2⟩ := divmod_pos (p := true) (q := b.neg) (A := A) hB0 (.inr h0)
        refine ⟨rfl, ((A / B, A % B), vq, vr), look_cons rfl (look_cons rfl (look_cons rfl (look_cons rfl (look_cons rfl (look_cons rfl look_nil))))), .refl _, hq, hr, Nat.le_trans lq (by omega), Nat.le_trans lr (by omega), ?_, ?_⟩
        · rw [eva, evb, hn]; exact d1
        · rw [eva, evb, hn]; exact d2
      · have hne : (hds (A % B)).length ≠ 0 := fun e => h0 (hds_eq_nil.1 (List.length_eq_zero_iff.1 e))
        refine .gtrT rfl rfl rfl (by omega) (.pick rfl rfl rfl (.nil (.condT rfl (.seq (.region (.mv rfl rfl (.bsl _ rfl rfl bsl_H1 fun w7 b7 n7 => ?_)))))))
        have hd1 : digH [1] := by intro x hx; simp at hx; omega
        have ho : OwnH 3 w6.heap.size w7 (.slice (some ⟨b7, 0, none⟩) 1 1) [1] := OwnH.lit (l := [1]) n7 (Nat.le_refl _) hd1 (by simp)
        obtain ⟨e7, _, _, _⟩ := n7
        refine .call _ rfl E_ref01_add rfl (ref01_add_c (S := T) (up6.ext e7.size) (ER.ext eHs hq e7) (ho.toR up6) (by omega) (by simp)) fun v8 w8 e8 h8 => .asg rfl rfl (.nil ?_)
        rw [valH_hds, show valH [1] = 1 by rfl] at h8
        have e78 := e7.trans e8
        refine .region (.mv rfl rfl (.mv rfl rfl ?_))
        have hm := Nat.mod_lt A hB0
        refine .call _ rfl E_ref01_sub rfl (ref01_sub_c (S := T) (up6.ext e78.size) (ER.ext eHs hy6 e78) (ER.ext eHs hr e78) (by omega) (by rw [valH_hds, valH_hds]; omega)) fun v9 w9 e9 h9 => .asg rfl rfl (.nil ?_)
        rw [valH_hds, valH_hds] at h9
        obtain ⟨d1, d2⟩ := divmod_neg (q := b.neg) (A := A) hB0 (by omega)
        refine ⟨rfl, ((A / B + 1, B - A % B), v8, v9), look_cons rfl (look_cons rfl (look_cons rfl (look_cons rfl (look_cons rfl (look_cons rfl look_nil))))), e78.trans e9, ER.ext eHs h8 e9, h9, ?_, ?_, ?_, ?_⟩
        · exact Nat.le_trans (hds_add_len lq (B := 1) (Nat.le_trans (hds_length (L := 1) (by decide)) (by omega))) (by omega)
        · exact Nat.le_trans (hds_len_mono (Nat.sub_le _ _)) (by omega)
        · rw [eva, evb, hn]; exact d1
        · rw [eva, evb, hn]; exact d2
  · rintro ⟨⟨q, r⟩, vq, vr⟩ W ⟨hW, hq, hr, lq, lr, d1, d2⟩
    replace hW : Ext w6 W := hW
    replace hq : eHs.R T W vq (hds q) := hq
    replace hr : eHs.R T W vr (hds r) := hr
    replace lq : (hds q).length ≤ 2000000002 := lq
    replace lr : (hds r).length ≤ 2000000002 := lr
    replace d1 : zval a / zval b = sg (a.neg != b.neg) q := d1
    replace d2 : zval a % zval b = sg false r := d2
    refine .weak [(2, .pointer (some ⟨b2, 0, none⟩)), (3, .pointer (some ⟨b3, 0, none⟩)), (4, .pointer (some ⟨b4, 0, none⟩)), (5, .pointer (some ⟨b5, 0, none⟩)), (9, vq), (10, vr)] (fun t v h => h) ?_
    have k2 := k2.ext hW
    have k3 := k3.ext hW
    have k4 := k4.ext hW
    have k5 := k5.ext hW
    have upW := up6.ext hW.size
    refine .seq (.region (.fa fld_Z0 rfl rfl (.ld ty_bool rfl rfl k2 rfl (.fa fld_Z0 rfl rfl (.ld ty_bool rfl rfl k3 rfl (.neqB un_bool rfl rfl rfl (.mv rfl rfl ?_)))))))
    refine .call _ rfl E_ref01_of rfl (ref01_of_c upW hq (by omega)) fun v7 w7 e7 h7 => .mv rfl rfl ?_
    rw [valH_hds, ← d1] at h7
    refine .call _ rfl E_ref01_of rfl (ref01_of_c (upW.ext e7.size) (ER.ext eHs hr e7) (by omega)) fun v8 w8 e8 h8 => ?_
    rw [valH_hds, ← d2] at h8
    have e78 := e7.trans e8
    refine .storeA (E := eZ) ty_Z rfl rfl (k4.ext e78) rfl rfl (ER.ext eZ h7 e8) hS4 fun w9 k9 u9 h9 => ?_
    refine .storeA (E := eZ) ty_Z rfl rfl ((k5.ext e78).upd u9 hne) rfl rfl (ER.upd eZ h8 u9 hS4) hS5 fun w10 k10 u10 h10 => .asg rfl rfl (.nil (.ret ?_))
    exact .plain [_, _, _] Tryz.results142 ⟨⟨_, rfl, load_cell (E := eZ) ty_Z rfl rfl (k9.upd u10 (Ne.symm hne)) (ER.upd eZ h9 u10 hS5)⟩, ⟨_, rfl, load_cell (E := eZ) ty_Z rfl rfl k10 h10⟩, rfl, trivial⟩
      ⟨u10.below (u9.below ((x6.trans hW).trans e78) (by omega)) (by omega), _, _, _, rfl, hout (ER.upd eZ h9 u10 hS5), hout h10, rfl⟩

theorem E_ref01_Cmp : Ent Tryz.prog 143 := ent_of Tryz.func143 (by kernel_rfl) rfl
theorem ref01_Cmp_c {S : Nat → Prop} {w : World} {va vb : Value} {a b : ZV} (up : Up S w) (ha : eZ.R S w va a) (hb : eZ.R S w vb b) (hla : a.w.length ≤ 1000000000) (hlb : b.w.length ≤ 1000000000) : CR Tryz.prog 143 #[va, vb] w (Is (.int .i64 (cmpI (zval a) (zval b)))) := by
  have ha0 := ha
  have hb0 := hb
  obtain ⟨s, rfl, hs⟩ := ha
  obtain ⟨t, rfl, ht⟩ := hb
  refine enter Tryz.func143 rfl Tryz.ntmps143 rfl ?_
  refine .seq (.region (.box rfl rfl fun w1 b2 n1 => .box rfl rfl fun w2 b3 n2 => .asg rfl rfl (.nil ?_)))
  obtain ⟨e1, k2, hb2, hs1⟩ := n1
  obtain ⟨e2, k3, hb3, hs2⟩ := n2
  have x2 := e1.trans e2
  have k2 := k2.ext e2
  have up2 := up.ext x2.size
  have ha2 := ER.ext eZ ha0 x2
  have hb2' := ER.ext eZ hb0 x2
  have eva := zval_mk a
  have evb := zval_mk b
  refine .seq (.seq ?_)
  refine .par follows 5 [.inl (.agg #[.bool a.neg, s]), .inl (.int .i64 (zval a).sign), .inl (.agg #[.bool b.neg, t]), .inl (.int .i64 (zval b).sign), .inl (.bool ((zval a).sign != (zval b).sign))] [[], [(6, 0)], [], [(8, 2)], [(7, 1), (9, 3)]] (by kernel_rfl) ⟨
    fun w e => (v_ldA ty_Z rfl (k2.ext e) rfl).ob, fun w e => g_call _ E_ref01_Sign rfl (ref01_Sign_c (up2.ext e.size) (ER.ext eZ ha2 e) hla),
    fun w e => (v_ldA ty_Z rfl (k3.ext e) rfl).ob, fun w e => g_call _ E_ref01_Sign rfl (ref01_Sign_c (up2.ext e.size) (ER.ext eZ hb2' e) hlb), fun w e => (v_neq rfl rfl).ob, trivial⟩ ?_
  intro w3 e3
  have x3 := x2.trans e3
  have up3 := up2.ext e3.size
  have k2 := k2.ext e3
  have k3 := k3.ext e3
  have ha3 := ER.ext eZ ha2 e3
  have hb3 := ER.ext eZ hb2' e3
  by_cases hsg : (zval a).sign = (zval b).sign
  · rw [show ((zval a).sign != (zval b).sign) = false by simpa using hsg]
    refine .nil (.condF rfl (.skip (.seq ?_)))
    have hs' := ER.ext eW hs x3
    have ht' := ER.ext eW ht x3
    have l1 := hv_len hs hla
    have l2 := hv_len ht hlb
    have hc := cmpZ_sign hsg
    refine .par follows 7 [.inl _, .inl s, .inr (eHs.at S (hds (val a.w))), .inl _, .inl t, .inr (eHs.at S (hds (val b.w))), .inl (.int .i64 (cmpN (valH (hds (val a.w))) (valH (hds (val b.w)))))] [[], [(16, 0)], [(17, 1)], [], [(19, 3)], [(20, 4)], [(18, 2), (21, 5)]] (by kernel_rfl) ⟨
      fun w e => (v_fa fld_Z1 rfl).ob, fun w e => (v_ld ty_W rfl (k2.ext e) rfl).ob, fun w e => (g_call _ E_ref01_halves rfl (ref01_hv_c (up3.ext e.size) (hs'.ext e) hla)).ob (st_at _ _ _),
      fun w e => (v_fa fld_Z1 rfl).ob, fun w e => (v_ld ty_W rfl (k3.ext e) rfl).ob, fun w e => (g_call _ E_ref01_halves rfl (ref01_hv_c (up3.ext e.size) (ht'.ext e) hlb)).ob (st_at _ _ _),
      fun w e x hx y hy => g_call _ E_ref01_cmp rfl (ref01_cmp_c hx hy (by omega) (by omega)), trivial⟩ ?_
    intro w4 e4 x hx y hy
    rw [valH_hds, valH_hds]
    refine .asg rfl rfl (.nil (.seq (.seq (.region (.ldA ty_Z rfl rfl (k2.ext e4) rfl ?_)))))
    refine .call _ rfl E_ref01_Sign rfl (ref01_Sign_c (up3.ext e4.size) (ER.ext eZ ha3 e4) hla) fun v5 w5 e5 h5 => ?_
    subst h5
    have x5 := (x3.trans e4).trans e5
    by_cases hn : (zval a).sign < 0
    · rw [if_pos hn] at hc
      refine .lssT rfl rfl rfl hn (.nil (.condT rfl (.seq (.region (.mv rfl rfl (.neg rfl rfl (.asg rfl rfl (.nil (.ret ?_)))))))))
      exact .plain [_] Tryz.results143 ⟨rfl, trivial⟩ ⟨x5, isI (by rw [hc, wI (by unfold cmpN; split <;> (try split) <;> omega)])⟩
    · rw [if_neg hn] at hc
      refine .lssF rfl rfl rfl hn (.nil (.condF rfl (.skip (.seq (.region (.mv rfl rfl (.asg rfl rfl (.nil (.ret ?_)))))))))
      exact .plain [_] Tryz.results143 ⟨rfl, trivial⟩ ⟨x5, isI (by rw [hc])⟩
  · rw [show ((zval a).sign != (zval b).sign) = true by simpa using hsg]
    refine .nil (.condT rfl (.seq (.seq ?_)))
    have hc := cmpI_ne hsg
    refine .par follows 5 [.inl (.agg #[.bool a.neg, s]), .inl (.int .i64 (zval a).sign), .inl (.agg #[.bool b.neg, t]), .inl (.int .i64 (zval b).sign), .inl (.bool (decide ((zval a).sign < (zval b).sign)))] [[], [(11, 0)], [], [(13, 2)], [(12, 1), (14, 3)]] (by kernel_rfl) ⟨
      fun w e => (v_ldA ty_Z rfl (k2.ext e) rfl).ob, fun w e => g_call _ E_ref01_Sign rfl (ref01_Sign_c (up3.ext e.size) (ER.ext eZ ha3 e) hla),
      fun w e => (v_ldA ty_Z rfl (k3.ext e) rfl).ob, fun w e => g_call _ E_ref01_Sign rfl (ref01_Sign_c (up3.ext e.size) (ER.ext eZ hb3 e) hlb), fun w e => (v_lss rfl rfl).ob, trivial⟩ ?_
    intro w4 e4
    by_cases hn : (zval a).sign < (zval b).sign
    · rw [if_pos hn] at hc
      rw [show decide ((zval a).sign < (zval b).sign) = true by simpa using hn]
      refine .nil (.condT rfl (.seq (.region (.asg rfl rfl (.nil (.ret ?_))))))
      exact .plain [_] Tryz.results143 ⟨rfl, trivial⟩ ⟨x3.trans e4, isI (by rw [hc])⟩
    · rw [if_neg hn] at hc
      rw [show decide ((zval a).sign < (zval b).sign) = false by simpa using hn]
      refine .nil (.condF rfl (.skip (.seq (.region (.asg rfl rfl (.nil (.ret ?_)))))))
      exact .plain [_] Tryz.results143 ⟨rfl, trivial⟩ ⟨x3.trans e4, isI (by rw [hc])⟩
end Go.Proofs.YtccmemilofoamaaGreat

namespace Go.Kx
open Go Go.RowKit
def isAl (o : Oper) : Bool := match o.op with | .alloc _ => true | _ => false
/-- the new cells of a region -/
def AlOk (P : Program) (w0 : World) : List Oper → List Sp → Prop
  | o :: os, s :: ss => (isAl o = true → ∃ t z B, o.op = .alloc t ∧ o.guard = none ∧ zeroOf P t = some z ∧ s = .inr (NewP B t z.cells) ∧ B ≤ w0.heap.size) ∧ AlOk P w0 os ss
  | _, _ => True
theorem AlOk.at_ {P : Program} {w0 : World} : ∀ {os : List Oper} {ss : List Sp}, AlOk P w0 os ss → ∀ (i : Nat) (o : Oper) (s : Sp), os[i]? = some o → ss[i]? = some s → isAl o = true → ∃ t z B, o.op = .alloc t ∧ o.guard = none ∧ zeroOf P t = some z ∧ s = .inr (NewP B t z.cells) ∧ B ≤ w0.heap.size
  | [], ss, _, i, o, s, h1, _, _ => by simp at h1
  | o' :: os, [], _, i, o, s, _, h2, _ => by simp at h2
  | o' :: os, s' :: ss, h, 0, o, s, h1, h2, h3 => by simp at h1 h2; subst h1; subst h2; exact h.1 h3
  | o' :: os, s' :: ss, h, i + 1, o, s, h1, h2, h3 => AlOk.at_ h.2 i o s (by simpa using h1) (by simpa using h2) h3
section
variable {P : Program} {ro : Option Nat} {N : Nat} {ds : List Deferred} {ops : List Oper} {K : Env → World → Prop} {σ0 : Env} {w0 : World} {h : Nat} {sp : List Sp} {deps : List (List (Tmp × Nat))} {a0 : Act}
section
variable {Q : Exit → Act → World → Prop}
end
end
end Go.Kx

namespace Go.Proofs.YtccmemilofoamaaGreat
open Go Go.Kx Go.RowKit

theorem E_ref02_one : Ent Tryz.prog 144 := ent_of Tryz.func144 (by kernel_rfl) rfl
theorem ref02_one_c {S : Nat → Prop} {w : World} (up : Up S w) : CR Tryz.prog 144 #[] w (eZ.at S (zc 1)) := by
  refine enter Tryz.func144 rfl Tryz.ntmps144 rfl ?_
  refine .seq (.region (.alloc rfl zero_Z fun w1 b1 n1 => .nil ?_))
  obtain ⟨e1, k1, hb1, hs1⟩ := n1
  have hS : ¬ Sx S w.heap.size w1.heap.size b1 := Sx.no (by omega) (by omega)
  have up1 : Up (Sx S w.heap.size w1.heap.size) w1 := Sx.up up (Nat.le_refl _) e1.size
  refine .seq (.region (.call _ rfl E_ref01_From rfl (ref01_From_c up1 (by decide) (by decide)) fun v2 w2 e2 h2 => ?_))
  refine .storeA (E := eZ) ty_Z rfl rfl (k1.ext e2) rfl rfl h2 hS fun w5 k5 u5 h5 => .nil (.ret ?_)
  exact .cell Tryz.results144 rfl ty_Z rfl rfl k5 h5 ⟨u5.below (e1.trans e2) (by omega), h5.out⟩

theorem E_ref02_den : Ent Tryz.prog 111 := ent_of Tryz.func111 (by kernel_rfl) rfl
theorem ref02_den_c {S : Nat → Prop} {w : World} {v : Value} {q : QV} {L : Nat} (up : Up S w) (h : eQ.R S w v q) (hl : qok L q) (hL : L ≤ 1000000000) : CR Tryz.prog 111 #[v] w (eZ.at S (zc (pd q))) := by
  obtain ⟨s, t, rfl, hn, hd⟩ := eQ_parts h
  refine enter Tryz.func111 rfl Tryz.ntmps111 rfl ?_
  refine .seq (.region (.box rfl rfl fun w1 b1 n1 => .alloc rfl zero_Z fun w2 b2 n2 => .nil ?_))
  obtain ⟨e1, k1, hb1, hs1⟩ := n1
  obtain ⟨e2, k2, hb2, hs2⟩ := n2
  have x2 := e1.trans e2
  have k1 := k1.ext e2
  have hS : ¬ Sx S w.heap.size w2.heap.size b2 := Sx.no (by omega) (by omega)
  have up2 : Up (Sx S w.heap.size w2.heap.size) w2 := Sx.up up (Nat.le_refl _) x2.size
  have hd2 := (ER.par eZ hd w2.heap.size).ext x2
  refine .seq (.seq (.region (.fa fld_Q1 rfl rfl (.ldN [.bool q.den.neg, t] ty_Z rfl rfl k1 two_off ?_))))
  refine .call _ rfl E_ref01_Sign rfl (ref01_Sign_c up2 hd2 (Nat.le_trans hl.2 hL)) fun v3 w3 e3 h3 => ?_
  subst h3
  have hp : zval q.den ≠ 0 → pd q = (val q.den.w : Nat) := by
    intro h0
    have := zval_natAbs q.den
    unfold pd; rw [if_neg h0]; split <;> omega
  by_cases h0 : zval q.den = 0
  · refine .eqlT rfl rfl rfl (by rw [h0]; rfl) (.nil (.condT rfl (.seq (.region ?_))))
    refine .call _ rfl E_ref02_one rfl (ref02_one_c (up2.ext e3.size)) fun v4 w4 e4 h4 => ?_
    refine .storeA (E := eZ) ty_Z rfl rfl ((k2.ext e3).ext e4) rfl rfl h4 hS fun w5 k5 u5 h5 => .nil (.ret ?_)
    exact .cell Tryz.results111 rfl ty_Z rfl rfl k5 h5 ⟨u5.below ((x2.trans e3).trans e4) (by omega), by rw [show pd q = 1 by unfold pd; rw [if_pos h0]]; exact h5.out⟩
  · refine .eqlF rfl rfl rfl (fun h => h0 (Int.sign_eq_zero_iff_zero.1 h)) (.nil (.condF rfl (.skip (.seq (.region (.fa fld_Q1 rfl rfl (.ldN [.bool q.den.neg, t] ty_Z rfl rfl (k1.ext e3) two_off ?_)))))))
    refine .call _ rfl E_ref01_Abs rfl (ref01_Abs_c (up2.ext e3.size) (ER.ext eZ hd2 e3) (Nat.le_trans hl.2 hL)) fun v4 w4 e4 h4 => ?_
    refine .storeA (E := eZ) ty_Z rfl rfl ((k2.ext e3).ext e4) rfl rfl h4 hS fun w5 k5 u5 h5 => .nil (.ret ?_)
    exact .cell Tryz.results111 rfl ty_Z rfl rfl k5 h5 ⟨u5.below ((x2.trans e3).trans e4) (by omega), by rw [hp h0]; exact h5.out⟩

theorem E_ref02_num : Ent Tryz.prog 110 := ent_of Tryz.func110 (by kernel_rfl) rfl
theorem ref02_num_c {S : Nat → Prop} {w : World} {v : Value} {q : QV} {L : Nat} (up : Up S w) (h : eQ.R S w v q) (hl : qok L q) (hL : L ≤ 1000000000) : CR Tryz.prog 110 #[v] w (eZ.at S (zc (pn q))) := by
  obtain ⟨s, t, rfl, hn, hd⟩ := eQ_parts h
  refine enter Tryz.func110 rfl Tryz.ntmps110 rfl ?_
  refine .seq (.region (.box rfl rfl fun w1 b1 n1 => .alloc rfl zero_Z fun w2 b2 n2 => .nil ?_))
  obtain ⟨e1, k1, hb1, hs1⟩ := n1
  obtain ⟨e2, k2, hb2, hs2⟩ := n2
  have x2 := e1.trans e2
  have k1 := k1.ext e2
  have hS : ¬ Sx S w.heap.size w2.heap.size b2 := Sx.no (by omega) (by omega)
  have up2 : Up (Sx S w.heap.size w2.heap.size) w2 := Sx.up up (Nat.le_refl _) x2.size
  have hd2 := (ER.par eZ hd w2.heap.size).ext x2
  have hn2 := (ER.par eZ hn w2.heap.size).ext x2
  refine .seq (.seq (.region (.fa fld_Q1 rfl rfl (.ldN [.bool q.den.neg, t] ty_Z rfl rfl k1 two_off ?_))))
  refine .call _ rfl E_ref01_Sign rfl (ref01_Sign_c up2 hd2 (Nat.le_trans hl.2 hL)) fun v3 w3 e3 h3 => ?_
  subst h3
  by_cases h0 : zval q.den < 0
  · refine .lssT rfl rfl rfl (by rw [Int.sign_eq_neg_one_of_neg h0]; decide) (.nil (.condT rfl (.seq (.region (.fa fld_Q0 rfl rfl (.ldN [.bool q.num.neg, s] ty_Z rfl rfl (k1.ext e3) two_on ?_))))))
    refine .call _ rfl E_ref01_Neg rfl (ref01_Neg_c (up2.ext e3.size) (ER.ext eZ hn2 e3) (Nat.le_trans hl.1 hL)) fun v4 w4 e4 h4 => ?_
    refine .storeA (E := eZ) ty_Z rfl rfl ((k2.ext e3).ext e4) rfl rfl h4 hS fun w5 k5 u5 h5 => .nil (.ret ?_)
    exact .cell Tryz.results110 rfl ty_Z rfl rfl k5 h5 ⟨u5.below ((x2.trans e3).trans e4) (by omega), by rw [show pn q = -zval q.num by unfold pn; rw [if_pos h0]]; exact h5.out⟩
  · refine .lssF rfl rfl rfl (fun h => h0 (Int.sign_neg_iff.1 h)) (.nil (.condF rfl (.skip (.seq (.region (.fa fld_Q0 rfl rfl (.ldN [.bool q.num.neg, s] ty_Z rfl rfl (k1.ext e3) two_on ?_)))))))
    refine .call _ rfl E_ref01_Least rfl (ref01_Least_c (up2.ext e3.size) (ER.ext eZ hn2 e3) (Nat.le_trans hl.1 (by omega))) fun v4 w4 e4 h4 => ?_
    refine .storeA (E := eZ) ty_Z rfl rfl ((k2.ext e3).ext e4) rfl rfl h4 hS fun w5 k5 u5 h5 => .nil (.ret ?_)
    exact .cell Tryz.results110 rfl ty_Z rfl rfl k5 h5 ⟨u5.below ((x2.trans e3).trans e4) (by omega), by rw [show pn q = zval q.num by unfold pn; rw [if_neg h0]]; exact h5.out⟩

theorem E_ref02_over : Ent Tryz.prog 108 := ent_of Tryz.func108 (by kernel_rfl) rfl
theorem ref02_over_c {S : Nat → Prop} {w : World} {va vb : Value} {a b : ZV} {L : Nat} (up : Up S w) (ha : eZ.R S w va a) (hb : eZ.R S w vb b) (hla : a.w.length ≤ L) (hlb : b.w.length ≤ L) (hL : L ≤ 1000000000) (hb0 : 0 < zval b) : CR Tryz.prog 108 #[va, vb] w (eQ.at S (qc (Rat.divInt (zval a) (zval b)))) := by
  have hda := eZ_dig ha
  have hdb := eZ_dig hb
  have hqc := qc_divInt (n := zval a) hb0
  have hga := zval_natAbs a
  have hgb := zval_natAbs b
  have hBp : 0 < val b.w := by omega
  have hla1 := zval_lt hda hla
  have hlb1 := zval_lt hdb hlb
  rw [hga] at hla1
  rw [hgb] at hlb1
  rw [hga, hgb] at hqc
  have hg1 : Nat.gcd (val a.w) (val b.w) ≤ val b.w := Nat.gcd_le_right _ hBp
  have hg0 : 0 < Nat.gcd (val a.w) (val b.w) := Nat.gcd_pos_of_pos_right _ hBp
  generalize hgg : Nat.gcd (val a.w) (val b.w) = g at *
  obtain ⟨s, rfl, hs⟩ := ha
  obtain ⟨t, rfl, ht⟩ := hb
  have ha : eZ.R S w (.agg #[.bool a.neg, s]) a := ⟨s, rfl, hs⟩
  have hb : eZ.R S w (.agg #[.bool b.neg, t]) b := ⟨t, rfl, ht⟩
  refine enter Tryz.func108 rfl Tryz.ntmps108 rfl ?_
  refine .seq (.region (.box rfl rfl fun w1 b2 n1 => .box rfl rfl fun w2 b3 n2 => .alloc rfl zero_Q fun w3 b4 n3 => .nil ?_))
  obtain ⟨e1, k2, hb2, hs1⟩ := n1
  obtain ⟨e2, k3, hb3, hs2⟩ := n2
  obtain ⟨e3, k4, hb4, hs3⟩ := n3
  have x3 := (e1.trans e2).trans e3
  have k2 := (k2.ext e2).ext e3
  have k3 := k3.ext e3
  have hS4 : ¬ Sx S w.heap.size w3.heap.size b4 := Sx.no (by omega) (by omega)
  have up3 : Up (Sx S w.heap.size w3.heap.size) w3 := Sx.up up (Nat.le_refl _) x3.size
  have ha3 := (ER.par eZ ha w3.heap.size).ext x3
  have hb3' := (ER.par eZ hb w3.heap.size).ext x3
  have hout : ∀ {W : World} {v : Value} {z : QV}, eQ.R (Sx S w.heap.size w3.heap.size) W v z → eQ.R S W v z := fun h => h.out
  generalize hT : Sx S w.heap.size w3.heap.size = T at *
  refine .seq (.region (.ldA ty_Z rfl rfl k2 rfl (.ldA ty_Z rfl rfl k3 rfl ?_)))
  refine .call _ rfl E_ref01_Gcd rfl (ref01_Gcd_c up3 ha3 hb3' (by omega) (by omega)) fun v4 w4 e4 h4 => ?_
  rw [hgg] at h4
  obtain ⟨s4, rfl, hs4⟩ := h4
  have h4 : eZ.R T w4 (.agg #[.bool (zc (g : Nat)).neg, s4]) (zc (g : Nat)) := ⟨s4, rfl, hs4⟩
  refine .alloc rfl zero_Z fun w5 b5 n5 => ?_
  obtain ⟨e5, k5, hb5, hs5⟩ := n5
  refine .storeA (E := eZ) ty_Z rfl rfl k5 rfl rfl (ER.ext eZ (ER.lt eZ h4) e5) (fun h => by have := h.2; omega) fun w6 k5 u6 _ => .nil ?_
  have e46 : Ext w4 w6 := u6.below e5 (by omega)
  have e36 := e4.trans e46
  have up6 := up3.ext e36.size
  have lg : (zc (g : Nat)).w.length ≤ 1000000000 := Nat.le_trans (zc_len (L := L) (by rw [Int.natAbs_natCast]; exact Nat.lt_of_le_of_lt hg1 hlb1)) hL
  have hgz : zval (zc ((g : Nat) : Int)) = (g : Int) := zval_zc _
  -- the two quotients
  refine .seq (.region (.ldA ty_Z rfl rfl (k2.ext e36) rfl (.ldA ty_Z rfl rfl k5 rfl ?_)))
  refine .call _ rfl E_ref01_Div rfl (ref01_Div_c up6 (ER.ext eZ ha3 e36) (ER.ext eZ h4 e46) (by omega) lg (by rw [hgz]; omega)) fun v7 w7 e7 h7 => ?_
  obtain ⟨vq, vr, _, rfl, hq, hr, rfl⟩ := h7
  rw [hgz] at hq hr
  obtain ⟨sq, rfl, hsq⟩ := hq
  have hq : eZ.R T w7 (.agg #[.bool (zc (zval a / (g : Nat))).neg, sq]) (zc (zval a / (g : Nat))) := ⟨sq, rfl, hsq⟩
  refine .mv rfl rfl (.ext rfl rfl rfl (.ext rfl rfl rfl (.ext rfl rfl rfl (.alloc rfl zero_Z fun w8 b6 n8 => .alloc rfl zero_Z fun w9 b7 n9 => ?_))))
  obtain ⟨e8, k6, hb6, hs8⟩ := n8
  obtain ⟨e9, k7, hb7, hs9⟩ := n9
  have e79 := e8.trans e9
  refine .storeA (E := eZ) ty_Z rfl rfl (k6.ext e9) rfl rfl (ER.ext eZ (ER.lt eZ hq) e79) (fun h => by have := h.2; omega) fun w10 k6 u10 _ => ?_
  have e710 : Ext w7 w10 := u10.below e79 (by omega)
  refine .storeA (E := eZ) ty_Z rfl rfl (k7.upd u10 (by omega)) rfl rfl (ER.ext eZ (ER.lt eZ hr) e710) (fun h => by have := h.2; omega) fun w11 k7 u11 _ => .asg rfl rfl (.nil ?_)
  have e711 : Ext w7 w11 := u11.below e710 (by omega)
  have k6 := k6.upd u11 (by omega)
  have e611 := e7.trans e711
  have up11 := up6.ext e611.size
  have k5 := k5.ext e611
  have e311 := e36.trans e611
  refine .seq (.region (.ldA ty_Z rfl rfl (k3.ext e311) rfl (.ldA ty_Z rfl rfl k5 rfl ?_)))
  refine .call _ rfl E_ref01_Div rfl (ref01_Div_c up11 (ER.ext eZ hb3' e311) (ER.ext eZ (ER.ext eZ h4 e46) e611) (by omega) lg (by rw [hgz]; omega)) fun v12 w12 e12 h12 => ?_
  obtain ⟨vd, ve, _, rfl, hd, he, rfl⟩ := h12
  rw [hgz] at hd he
  obtain ⟨sd, rfl, hsd⟩ := hd
  have hd : eZ.R T w12 (.agg #[.bool (zc (zval b / (g : Nat))).neg, sd]) (zc (zval b / (g : Nat))) := ⟨sd, rfl, hsd⟩
  refine .mv rfl rfl (.ext rfl rfl rfl (.ext rfl rfl rfl (.ext rfl rfl rfl (.alloc rfl zero_Z fun w13 b9 n13 => .alloc rfl zero_Z fun w14 b10 n14 => ?_))))
  obtain ⟨e13, k9, hb9, hs13⟩ := n13
  obtain ⟨e14, k10, hb10, hs14⟩ := n14
  have e1214 := e13.trans e14
  refine .storeA (E := eZ) ty_Z rfl rfl (k9.ext e14) rfl rfl (ER.ext eZ (ER.lt eZ hd) e1214) (fun h => by have := h.2; omega) fun w15 k9 u15 _ => ?_
  have e1215 : Ext w12 w15 := u15.below e1214 (by omega)
  refine .storeA (E := eZ) ty_Z rfl rfl (k10.upd u15 (by omega)) rfl rfl (ER.ext eZ (ER.lt eZ he) e1215) (fun h => by have := h.2; omega) fun w16 k10 u16 _ => .asg rfl rfl (.nil ?_)
  have e1216 : Ext w12 w16 := u16.below e1215 (by omega)
  have k9 := k9.upd u16 (by omega)
  have e1116 := e12.trans e1216
  have k6 := k6.ext e1116
  have up16 := up11.ext e1116.size
  have hd := ER.ext eZ hd e1216
  have hq := ER.ext eZ hq (e711.trans e1116)
  have hdl : (zc (zval b / (g : Nat))).w.length ≤ 1000000000 := Nat.le_trans (zc_len (L := L) (Nat.lt_of_le_of_lt (Int.natAbs_ediv_le_natAbs _ _) (by rw [hgb]; exact hlb1))) hL
  have e316 := e311.trans e1116
  have k4 := k4.ext e316
  refine .seq (.seq ?_)
  refine .par follows 4 [.inl (.agg #[.bool (zc (zval b / (g : Nat))).neg, sd]), .inr (eZ.at T (zc 1)), .inl (.int .i64 (cmpI (zval (zc (zval b / (g : Nat)))) (zval (zc 1)))), .inl (.bool (cmpI (zval (zc (zval b / (g : Nat)))) (zval (zc 1)) == 0))] [[], [], [(29, 0), (30, 1)], [(31, 2)]] (by kernel_rfl) ⟨
    fun w e => (v_ldA ty_Z rfl (k9.ext e) rfl).ob, fun w e => (g_call _ E_ref02_one rfl (ref02_one_c (up16.ext e.size))).ob (st_at _ _ _),
    fun w e x hx => g_call _ E_ref01_Cmp rfl (ref01_Cmp_c (up16.ext e.size) (ER.ext eZ hd e) hx hdl (Nat.le_trans (zc_len (L := 1) (by decide)) (by omega))), fun w e => (v_eql rfl rfl).ob, trivial⟩ ?_
  intro w17 e17 x1 hx1
  rw [zval_zc, zval_zc]
  have k4 := k4.ext e17
  have k6 := k6.ext e17
  have k9 := k9.ext e17
  obtain ⟨sq', he1, hsq'⟩ := ER.ext eZ hq e17
  obtain ⟨sd', he2, hsd'⟩ := ER.ext eZ hd e17
  injection he1 with he1
  injection he2 with he2
  simp at he1 he2
  subst he1
  subst he2
  have hxx := x3.trans (e316.trans e17)
  by_cases h1 : zval b / (g : Nat) = 1
  · rw [show (cmpI (zval b / (g : Nat)) 1 == 0) = true by rw [h1]; decide]
    rw [if_pos h1] at hqc
    have hfin : eQ.R T w17 (.agg #[.bool (zc (zval a / (g : Nat))).neg, sq, .bool false, .slice none 0 0]) (qc (Rat.divInt (zval a) (zval b))) := by
      rw [hqc]; exact ⟨sq, .slice none 0 0, rfl, hsq', RL.nil⟩
    refine .nil (.condT rfl (.seq (.region (.ldA ty_Z rfl rfl k6 rfl (.bld [(0, .agg #[.bool (zc (zval a / (g : Nat))).neg, sq])] rfl rfl bld_Q1 ?_)))))
    refine .storeA (E := eQ) ty_Q rfl rfl k4 rfl rfl hfin hS4 fun w18 k18 u18 h18 => .nil (.ret ?_)
    exact .cell Tryz.results108 rfl ty_Q rfl rfl k18 h18 ⟨u18.below hxx (by omega), hout h18⟩
  · rw [show (cmpI (zval b / (g : Nat)) 1 == 0) = false by unfold cmpI; split <;> (try split) <;> first | rfl | omega]
    rw [if_neg h1] at hqc
    have hfin : eQ.R T w17 (.agg #[.bool (zc (zval a / (g : Nat))).neg, sq, .bool (zc (zval b / (g : Nat))).neg, sd]) (qc (Rat.divInt (zval a) (zval b))) := by
      rw [hqc]; exact ⟨sq, sd, rfl, hsq', hsd'⟩
    refine .nil (.condF rfl (.skip (.seq (.region (.ldA ty_Z rfl rfl k6 rfl (.ldA ty_Z rfl rfl k9 rfl (.bld [(0, .agg #[.bool (zc (zval a / (g : Nat))).neg, sq]), (1, .agg #[.bool (zc (zval b / (g : Nat))).neg, sd])] rfl rfl bld_Q2 ?_)))))))
    refine .storeA (E := eQ) ty_Q rfl rfl k4 rfl rfl hfin hS4 fun w18 k18 u18 h18 => .nil (.ret ?_)
    exact .cell Tryz.results108 rfl ty_Q rfl rfl k18 h18 ⟨u18.below hxx (by omega), hout h18⟩
end Go.Proofs.YtccmemilofoamaaGreat

namespace Go.Kx
end Go.Kx
namespace Go.Proofs.YtccmemilofoamaaGreat
open Go Go.Kx Go.RowKit
theorem zl {n : Int} {L K : Nat} (h : n.natAbs < 4294967296 ^ L) (hL : L ≤ K) : (zc n).w.length ≤ K := Nat.le_trans (zc_len h) hL
theorem eQ_digs {S : Nat → Prop} {w : World} {v : Value} {q : QV} (h : eQ.R S w v q) : dig q.num.w ∧ dig q.den.w := by
  obtain ⟨s, t, _, h1, h2⟩ := h
  exact ⟨eW_lt h1, eW_lt h2⟩

theorem E_ref02_Least : Ent Tryz.prog 106 := ent_of Tryz.func106 (by kernel_rfl) rfl
theorem ref02_Least_c {S : Nat → Prop} {w : World} {v : Value} {q : QV} {L : Nat} (up : Up S w) (h : eQ.R S w v q) (hl : qok L q) (h1 : 1 ≤ L) (hL : L ≤ 1000000000) : CR Tryz.prog 106 #[v] w (eQ.at S (qc (qval q))) := by
  obtain ⟨hd1, hd2⟩ := eQ_digs h
  have hln := pn_lt hd1 hl
  have hld := pd_lt hd2 hl h1
  have hpp := pd_pos q
  obtain ⟨s, t, rfl, hs, ht⟩ := h
  have h : eQ.R S w (.agg #[.bool q.num.neg, s, .bool q.den.neg, t]) q := ⟨s, t, rfl, hs, ht⟩
  refine enter Tryz.func106 rfl Tryz.ntmps106 rfl ?_
  refine .seq (.region (.box rfl rfl fun w1 b1 n1 => .alloc rfl zero_Q fun w2 b2 n2 => .nil ?_))
  obtain ⟨e1, k1, hb1, hs1⟩ := n1
  obtain ⟨e2, k2, hb2, hs2⟩ := n2
  have x2 := e1.trans e2
  have k1 := k1.ext e2
  have hS : ¬ Sx S w.heap.size w2.heap.size b2 := Sx.no (by omega) (by omega)
  have up2 : Up (Sx S w.heap.size w2.heap.size) w2 := Sx.up up (Nat.le_refl _) x2.size
  have h2 := (ER.par eQ h w2.heap.size).ext x2
  have hout : ∀ {W : World} {v : Value} {z : QV}, eQ.R (Sx S w.heap.size w2.heap.size) W v z → eQ.R S W v z := fun h => h.out
  generalize hT : Sx S w.heap.size w2.heap.size = T at *
  refine .seq ?_
  refine .par follows 5 [.inl _, .inr (eZ.at T (zc (pn q))), .inl _, .inr (eZ.at T (zc (pd q))), .inr (eQ.at T (qc (Rat.divInt (zval (zc (pn q))) (zval (zc (pd q))))))] [[], [(3, 0)], [], [(5, 2)], [(4, 1), (6, 3)]] (by kernel_rfl) ⟨
    fun w e => (v_ldA ty_Q rfl (k1.ext e) rfl).ob, fun w e => (g_call _ E_ref02_num rfl (ref02_num_c (up2.ext e.size) (ER.ext eQ h2 e) hl hL)).ob (st_at _ _ _),
    fun w e => (v_ldA ty_Q rfl (k1.ext e) rfl).ob, fun w e => (g_call _ E_ref02_den rfl (ref02_den_c (up2.ext e.size) (ER.ext eQ h2 e) hl hL)).ob (st_at _ _ _),
    fun w e x hx y hy => (g_call _ E_ref02_over rfl (ref02_over_c (up2.ext e.size) hx hy (zl hln (Nat.le_refl _)) (zl hld (Nat.le_refl _)) hL (by rw [zval_zc]; exact hpp))).ob (st_at _ _ _), trivial⟩ ?_
  intro w3 e3 x hx y hy z hz
  rw [zval_zc, zval_zc] at hz
  refine .storeA (E := eQ) ty_Q rfl rfl (k2.ext e3) rfl rfl hz hS fun w4 k4 u4 h4 => .nil (.ret ?_)
  exact .cell Tryz.results106 rfl ty_Q rfl rfl k4 h4 ⟨u4.below (x2.trans e3) (by omega), hout h4⟩

theorem E_ref02_Neg : Ent Tryz.prog 60 := ent_of Tryz.func60 (by kernel_rfl) rfl
theorem ref02_Neg_c {S : Nat → Prop} {w : World} {v : Value} {q : QV} {L : Nat} (up : Up S w) (h : eQ.R S w v q) (hl : qok L q) (h1 : 1 ≤ L) (hL : L ≤ 1000000000) : CR Tryz.prog 60 #[v] w (eQ.at S (qc (-qval q))) := by
  obtain ⟨hd1, hd2⟩ := eQ_digs h
  have hln := pn_lt hd1 hl
  have hld := pd_lt hd2 hl h1
  have hpp := pd_pos q
  obtain ⟨s, t, rfl, hs, ht⟩ := h
  have h : eQ.R S w (.agg #[.bool q.num.neg, s, .bool q.den.neg, t]) q := ⟨s, t, rfl, hs, ht⟩
  refine enter Tryz.func60 rfl Tryz.ntmps60 rfl ?_
  refine .seq (.region (.box rfl rfl fun w1 b1 n1 => .alloc rfl zero_Q fun w2 b2 n2 => .nil ?_))
  obtain ⟨e1, k1, hb1, hs1⟩ := n1
  obtain ⟨e2, k2, hb2, hs2⟩ := n2
  have x2 := e1.trans e2
  have k1 := k1.ext e2
  have hS : ¬ Sx S w.heap.size w2.heap.size b2 := Sx.no (by omega) (by omega)
  have up2 : Up (Sx S w.heap.size w2.heap.size) w2 := Sx.up up (Nat.le_refl _) x2.size
  have h2 := (ER.par eQ h w2.heap.size).ext x2
  have hout : ∀ {W : World} {v : Value} {z : QV}, eQ.R (Sx S w.heap.size w2.heap.size) W v z → eQ.R S W v z := fun h => h.out
  generalize hT : Sx S w.heap.size w2.heap.size = T at *
  refine .seq ?_
  refine .par follows 6 [.inl _, .inr (eZ.at T (zc (pn q))), .inr (eZ.at T (zc (-zval (zc (pn q))))), .inl _, .inr (eZ.at T (zc (pd q))), .inr (eQ.at T (qc (Rat.divInt (zval (zc (-zval (zc (pn q))))) (zval (zc (pd q))))))] [[], [(3, 0)], [(4, 1)], [], [(6, 3)], [(5, 2), (7, 4)]] (by kernel_rfl) ⟨
    fun w e => (v_ldA ty_Q rfl (k1.ext e) rfl).ob, fun w e => (g_call _ E_ref02_num rfl (ref02_num_c (up2.ext e.size) (ER.ext eQ h2 e) hl hL)).ob (st_at _ _ _),
    fun w e x hx => (g_call _ E_ref01_Neg rfl (ref01_Neg_c (up2.ext e.size) hx (zl hln hL))).ob (st_at _ _ _),
    fun w e => (v_ldA ty_Q rfl (k1.ext e) rfl).ob, fun w e => (g_call _ E_ref02_den rfl (ref02_den_c (up2.ext e.size) (ER.ext eQ h2 e) hl hL)).ob (st_at _ _ _),
    fun w e x hx y hy => (g_call _ E_ref02_over rfl (ref02_over_c (up2.ext e.size) hx hy (zl (by rw [zval_zc, Int.natAbs_neg]; exact hln) (Nat.le_refl _)) (zl hld (Nat.le_refl _)) hL (by rw [zval_zc]; exact hpp))).ob (st_at _ _ _), trivial⟩ ?_
  intro w3 e3 x hx y hy z hz u hu
  rw [zval_zc, zval_zc, zval_zc, ← Rat.neg_divInt] at hu
  refine .storeA (E := eQ) ty_Q rfl rfl (k2.ext e3) rfl rfl hu hS fun w4 k4 u4 h4 => .nil (.ret ?_)
  exact .cell Tryz.results60 rfl ty_Q rfl rfl k4 h4 ⟨u4.below (x2.trans e3) (by omega), hout h4⟩

end Go.Proofs.YtccmemilofoamaaGreat

namespace Go.Kx
open Go Go.RowKit
end Go.Kx
namespace Go.Proofs.YtccmemilofoamaaGreat
open Go Go.Kx Go.RowKit
end Go.Proofs.YtccmemilofoamaaGreat

namespace Go.Proofs.YtccmemilofoamaaGreat
open Go Go.Kx Go.RowKit

end Go.Proofs.YtccmemilofoamaaGreat

namespace Go.Kx
end Go.Kx
namespace Go.Proofs.YtccmemilofoamaaGreat
open Go Go.Kx Go.RowKit
end Go.Proofs.YtccmemilofoamaaGreat

namespace Go.Proofs.YtccmemilofoamaaGreat
open Go Go.Kx Go.RowKit

end Go.Proofs.YtccmemilofoamaaGreat

namespace Go.Proofs.YtccmemilofoamaaGreat
open Go Go.Kx Go.RowKit

end Go.Proofs.YtccmemilofoamaaGreat

namespace Go.Proofs.YtccmemilofoamaaGreat
open Go Go.Kx Go.RowKit

end Go.Proofs.YtccmemilofoamaaGreat

namespace Go.Proofs.YtccmemilofoamaaGreat
open Go Go.Kx Go.RowKit

end Go.Proofs.YtccmemilofoamaaGreat

namespace Go.Proofs.YtccmemilofoamaaGreat
open Go Go.Kx Go.RowKit

end Go.Proofs.YtccmemilofoamaaGreat

namespace Go.Kx
open Go Go.RowKit
section
variable {P : Program} {σ : Env} {w : World} {d : Option Tmp} {ty : TypeId} {pos : String} {af : Array Edge} {g : Option (Nat × Bool)}
end
end Go.Kx
namespace Go.Proofs.YtccmemilofoamaaGreat
open Go Go.Kx Go.RowKit
end Go.Proofs.YtccmemilofoamaaGreat

namespace Go.Kx
end Go.Kx
namespace Go.Proofs.YtccmemilofoamaaGreat
open Go Go.Kx Go.RowKit
end Go.Proofs.YtccmemilofoamaaGreat

namespace Go.Kx
open Go Go.RowKit
theorem colsOf_tabM (n c : Nat) (f : Nat → Nat → Rat) : colsOf (tabM n c f) ≤ c := by
  refine colsOf_le fun r hr => ?_
  obtain ⟨i, _, rfl⟩ := List.mem_map.1 hr
  rw [tab_length]; exact Nat.le_refl _
end Go.Kx
namespace Go.Proofs.YtccmemilofoamaaGreat
open Go Go.Kx Go.RowKit

def mulM (a b : List (List QV)) : List (List QV) := tabM a.length (colsOf b) (mmul a b)
def trM (m : List (List QV)) : List (List QV) := tabM (colsOf m) m.length fun i k => rm m k i
theorem mk_mulM {a b : List (List QV)} {L : Nat} (ha : mk_ L a) (hb : mk_ L b) (hL : 1 ≤ L) : mk_ (1 + b.length * (L + L + 1)) (mulM a b) :=
  mk_tabM fun i k _ _ => sumN_rsz fun j _ => (ha.rsz hL i j).mul (hb.rsz hL j k)
theorem mk_trM {m : List (List QV)} {L : Nat} (h : mk_ L m) (hL : 1 ≤ L) : mk_ L (trM m) := mk_tabM fun i k _ _ => h.rsz hL k i
theorem mulM_length (a b : List (List QV)) : (mulM a b).length = a.length := tabM_length _ _ _

/-! the laws of a ring -/
structure MR (W : World) (v : Value) (n c L : Nat) (m : List (List QV)) : Prop where
  r : eM.R (fun _ => True) W v m
  hn : m.length ≤ n
  hc : colsOf m ≤ c
  hk : mk_ L m
structure VR (W : World) (v : Value) (n L : Nat) (a : List QV) : Prop where
  r : eV.R (fun _ => True) W v a
  hn : a.length ≤ n
  hk : vk L a
section
variable {W W' : World} {v va vb : Value} {n c n' c' L L' : Nat} {a b m : List (List QV)} {x y : List QV}
theorem MR.ext (h : MR W v n c L m) (e : Ext W W') : MR W' v n c L m := ⟨h.r.ext e, h.hn, h.hc, h.hk⟩
theorem VR.ext (h : VR W v n L x) (e : Ext W W') : VR W' v n L x := ⟨h.r.ext e, h.hn, h.hk⟩
theorem upT {W : World} : Up (fun _ => True) W := fun _ _ => trivial
theorem mulW (L' : Nat) (ha : MR W va n c L a) (hb : MR W vb n' c' L b) (h1 : 1 ≤ L := by decide) (h2 : L ≤ 1000000 := by decide) (h3 : 1 + n' * (L + L + 1) ≤ L' := by decide) (hn : n ≤ 1000 := by decide) (hn' : n' ≤ 1000 := by decide) (hc' : c' ≤ 1000 := by decide) :
    CR Tryz.prog 34 #[va, vb] W fun v W' => MR W' v n c' L' (mulM a b) := by
  have a1 := ha.hn
  have a2 := hb.hn
  have a3 := hb.hc
  refine (mat_Mul_c upT ha.r hb.r ha.hk hb.hk h1 h2 (by omega) (by omega) (by omega)).mono fun v W' e h => ⟨h, by rw [mulM_length]; omega, Nat.le_trans (colsOf_tabM _ _ _) a3, (mk_mulM ha.hk hb.hk h1).mono ?_⟩
  have : b.length * (L + L + 1) ≤ n' * (L + L + 1) := Nat.mul_le_mul_right _ a2
  omega
theorem trW (ha : MR W va n c L a) (h1 : 1 ≤ L := by decide) (h2 : L ≤ 10000000000 := by decide) (hn : n ≤ 1000 := by decide) (hc : c ≤ 1000 := by decide) :
    CR Tryz.prog 35 #[va] W fun v W' => MR W' v c n L (trM a) := by
  have a1 := ha.hn
  have a4 := ha.hc
  exact (mat_Transpose_c upT ha.r ha.hk h1 h2 (by omega) (by omega)).mono fun v W' e h => ⟨h, by rw [show (trM a).length = colsOf a from tabM_length _ _ _]; exact a4, Nat.le_trans (colsOf_tabM _ _ _) a1, mk_trM ha.hk h1⟩
end
/-- a matrix that is not long -/
theorem okM.mr {W : World} {v : Value} {m : List (List QV)} (h : okM m) (hr : eM.R (fun _ => True) W v m) : MR W v 8 8 6 m :=
  ⟨hr, h.1, h.2.1, eM_mk hr (fun r hr => (h.2.2 r hr).2) (by decide)⟩
theorem okV.vr {W : World} {v : Value} {a : List QV} (h : okV a) (hr : eV.R (fun _ => True) W v a) : VR W v 20 6 a := ⟨hr, h.1, eV_vk hr h.2 (by decide)⟩
end Go.Proofs.YtccmemilofoamaaGreat

namespace Go.Proofs.YtccmemilofoamaaGreat
open Go Go.Kx Go.RowKit

theorem bsl_M2 {a a' : Option Addr} {n c n' c' : Nat} : bslOf Tryz.prog 22 2 [(0, .slice a n c), (1, .slice a' n' c')] = some (23, #[.slice a n c, .slice a' n' c']) := by kernel_rfl
/-- slices just laid in a row -/
theorem eS_new {α : Type} {E : ER α} {hsz : 0 < E.sz} {S : Nat → Prop} {w w' : World} {b : Nat} {t : TypeId} {cs : Array Value} {n : Nat} (vs : List Value) (ls : List (List α)) (hn : New w w' b t cs) (up : Up S w) (hcs : cs = vs.toArray) (hl : ls.length = n) (hm : n ≤ 1000) (h : Els (RL E hsz) S w vs ls) :
    (RL (RL E hsz) (show 0 < 1 by decide)).R S w' (.slice (some ⟨b, 0, none⟩) n n) ls := by
  subst hl
  refine RL.ofBlk (es := vs) hn.2.1 (up b (by have := hn.2.2.1; omega)) (h.ext hn.1) (fun j u hu => ?_) (Nat.le_refl _) (by omega)
  rw [hcs]
  have hv : ∀ v ∈ vs, v.cells = #[v] := by
    intro v hv
    obtain ⟨i, hi⟩ := List.mem_iff_getElem?.1 hv
    have hlt := mem_lt hi
    obtain ⟨a, c, rfl, _⟩ := RL.len (h.2 i v _ hi (List.getElem?_eq_getElem (by rw [← h.1]; exact hlt)))
    rfl
  have : cellsOf vs = vs := by
    clear h hcs hu
    induction vs with
    | nil => rfl
    | cons v vs ih => rw [cellsOf, List.flatMap_cons, hv v (by simp), ← cellsOf, ih fun u hu => hv u (by simp [hu])]; rfl
  rw [this] at hu
  simpa using hu

end Go.Proofs.YtccmemilofoamaaGreat

namespace Go.Proofs.YtccmemilofoamaaGreat
open Go Go.Kx Go.RowKit

theorem E_law05_tall : Ent Tryz.prog 55 := ent_of Tryz.func55 (by kernel_rfl) rfl
theorem law05_tall_c {S : Nat → Prop} {w : World} {v : Value} {l : List (List QV)} (h : eM.R S w v l) : CR Tryz.prog 55 #[v] w (Lng (∀ r ∈ l, ∀ q ∈ r, qok 2 q)) := by
  obtain ⟨_, _, _, _, hl⟩ := RL.len h
  refine enter Tryz.func55 rfl Tryz.ntmps55 rfl ?_
  refine .seq (.region (.asg rfl rfl (.nil (.seq (.seq (.region (.asg rfl rfl (.nil ?_))))))))
  refine .block (.loop (α := Nat) (fun i => [(0, v), (3, .int .i64 (i : Nat))]) (fun i W => W = w ∧ i ≤ l.length ∧ ∀ j r, j < i → l[j]? = some r → ∀ q ∈ r, qok 2 q) (fun i => l.length - i) 0 ?_ ?_ ?_)
  · exact look_cons rfl (look_cons rfl look_nil)
  · exact ⟨rfl, Nat.zero_le _, fun j r hj => absurd hj (Nat.not_lt_zero _)⟩
  rintro i W ⟨rfl, hi, hall⟩
  refine .seq (.seq (.region (.mv rfl rfl (.mv rfl rfl (.lenR un_M rfl rfl h ?_)))))
  rcases Nat.lt_or_ge i l.length with hlt | hge
  rotate_left
  · refine .lssF rfl rfl rfl (by omega) (.nil (.condF rfl (.exit (.seq (.region (.asg rfl rfl (.nil (.ret ?_))))))))
    refine .plain [_] Tryz.results55 ⟨rfl, trivial⟩ ⟨.refl _, false, rfl, fun _ r hr => ?_⟩
    obtain ⟨j, hj⟩ := List.mem_iff_getElem?.1 hr
    exact hall j r (by have := mem_lt hj; omega) hj
  have hyy := List.getElem?_eq_getElem hlt
  generalize l[i] = r at hyy
  have hrl : r.length ≤ 9223372036854775807 := eM_le h hyy
  refine .lssT rfl rfl rfl (by omega) (.nil (.condT rfl (.skip (.seq (.block (.seq (.region (.asg rfl rfl (.nil ?_)))))))))
  refine .block (.loop (α := Nat) (fun k => [(0, v), (3, .int .i64 (i : Nat)), (4, .int .i64 (k : Nat))]) (fun k W' => W' = W ∧ k ≤ r.length ∧ ∀ j q, j < k → r[j]? = some q → qok 2 q) (fun k => r.length - k) 0 ?_ ?_ ?_)
  · exact look_cons rfl (look_cons rfl (look_cons rfl look_nil))
  · exact ⟨rfl, Nat.zero_le _, fun j r hj => absurd hj (Nat.not_lt_zero _)⟩
  rintro k W' ⟨rfl, hk, hall2⟩
  refine .seq (.seq (.region (.mv rfl rfl (.mv rfl rfl (.mv rfl rfl ?_)))))
  refine .ixN (i := i) un_M ty_V rfl rfl h rfl hyy fun p hp => .ldE ty_V rfl rfl hp fun e he => .lenR un_V rfl rfl he ?_
  rcases Nat.lt_or_ge k r.length with hlk | hgk
  rotate_left
  · refine .lssF rfl rfl rfl (by omega) (.nil (.condF rfl (.exit (.region (.mv rfl rfl (.add rfl rfl rfl (.asg rfl rfl (.nil ?_))))))))
    rw [wI (by omega)]
    refine ⟨rfl, i + 1, look_cons rfl (look_cons rfl look_nil), ⟨rfl, hlt, fun j r' hj hr' => ?_⟩, by show l.length - (i + 1) < l.length - i; omega⟩
    by_cases e : j = i
    · subst e; rw [hyy] at hr'; cases hr'
      intro q hq
      obtain ⟨j, hj⟩ := List.mem_iff_getElem?.1 hq
      exact hall2 j q (by have := mem_lt hj; omega) hj
    · exact hall j r' (by omega) hr'
  have hzz := List.getElem?_eq_getElem hlk
  generalize r[k] = q at hzz
  refine .lssT rfl rfl rfl (by omega) (.nil (.condT rfl (.skip (.seq (.block (.seq (.region (.mv rfl rfl (.mv rfl rfl ?_)))))))))
  refine .ixN (i := i) un_M ty_V rfl rfl h rfl hyy fun p2 hp2 => .ldE ty_V rfl rfl hp2 fun e2 he2 => .mv rfl rfl ?_
  refine .ixN (i := k) un_V ty_Q rfl rfl he2 rfl hzz fun p3 hp3 => .faP fld_Q0 rfl rfl (.faP fld_Z1 rfl rfl (.ldE (E := eW) ty_W rfl rfl hp3.qn.zw fun e3 he3 => .lenR un_W rfl rfl he3 ?_))
  have htrue : ∀ {σ : Env}, Kx.look σ 2 = some (.bool true) → Leave Tryz.prog Tryz.f55 44 (fun v w' => Ext W' w' ∧ Lng (∀ r ∈ l, ∀ q ∈ r, qok 2 q) v w') σ [] W' := by
    intro σ hl
    exact .plain [_] Tryz.results55 ⟨hl, trivial⟩ ⟨.refl _, true, rfl, fun h => by cases h⟩
  by_cases hn : q.num.w.length ≤ 2
  · refine .gtrF rfl rfl rfl (by omega) (.mv rfl rfl (.gr rfl rfl rfl rfl (.mv rfl rfl (.gr rfl rfl rfl rfl (.mv rfl rfl (.gr rfl rfl rfl rfl ?_))))))
    refine .ixN (i := i) un_M ty_V rfl rfl h rfl hyy fun p4 hp4 => .gr rfl rfl rfl rfl (.ldE ty_V rfl rfl hp4 fun e4 he4 => .gr rfl rfl rfl rfl (.mv rfl rfl (.gr rfl rfl rfl rfl ?_)))
    refine .ixN (i := k) un_V ty_Q rfl rfl he4 rfl hzz fun p5 hp5 => .gr rfl rfl rfl rfl (.faP fld_Q1 rfl rfl (.gr rfl rfl rfl rfl (.faP fld_Z1 rfl rfl (.gr rfl rfl rfl rfl (.ldE (E := eW) ty_W rfl rfl hp5.qd.zw fun e5 he5 => .gr rfl rfl rfl rfl (.lenR un_W rfl rfl he5 (.gr rfl rfl rfl rfl ?_)))))))
    by_cases hd : q.den.w.length ≤ 2
    · refine .gtrF rfl rfl rfl (by omega) (.pick rfl rfl rfl (.nil (.condF rfl (.skip (.region (.mv rfl rfl (.add rfl rfl rfl (.asg rfl rfl (.nil ?_)))))))))
      rw [wI (by omega)]
      refine ⟨rfl, k + 1, look_cons rfl (look_cons rfl (look_cons rfl look_nil)), ⟨rfl, hlk, fun j q' hj hq' => ?_⟩, by show r.length - (k + 1) < r.length - k; omega⟩
      by_cases e : j = k
      · subst e; rw [hzz] at hq'; cases hq'; exact ⟨hn, hd⟩
      · exact hall2 j q' (by omega) hq'
    · exact .gtrT rfl rfl rfl (by omega) (.pick rfl rfl rfl (.nil (.condT rfl (.seq (.region (.asg rfl rfl (.nil (.ret (htrue rfl)))))))))
  · refine .gtrT rfl rfl rfl (by omega) (.mv rfl rfl (.gs rfl rfl rfl rfl rfl (.gs rfl rfl rfl rfl rfl (.gs rfl rfl rfl rfl rfl (.gs rfl rfl rfl rfl rfl (.gs rfl rfl rfl rfl rfl (.gs rfl rfl rfl rfl rfl (.gs rfl rfl rfl rfl rfl (.gs rfl rfl rfl rfl rfl (.gs rfl rfl rfl rfl rfl (.gs rfl rfl rfl rfl rfl (.gs rfl rfl rfl rfl rfl ?_))))))))))))
    exact .pick rfl rfl rfl (.nil (.condT rfl (.seq (.region (.asg rfl rfl (.nil (.ret (htrue rfl))))))))

theorem bsl_MM1 {a : Option Addr} {n c : Nat} : bslOf Tryz.prog 113 1 [(0, .slice a n c)] = some (22, #[.slice a n c]) := by kernel_rfl
/-- what the laws of chapter 5 speak of -/
structure okM5 (m : List (List QV)) : Prop where
  rows : m.length ≤ 6
  cols : colsOf m ≤ 6
  q : ∀ r ∈ m, ∀ q ∈ r, qok 2 q
structure okV5 (b : List QV) : Prop where
  len : b.length ≤ 8
  q : ∀ q ∈ b, qok 2 q
theorem E_law05_long : Ent Tryz.prog 11 := ent_of Tryz.func11 (by kernel_rfl) rfl
theorem law05_long_c {w : World} {vm vl : Value} {m : List (List QV)} {l : List (List QV)} (hm : eM.R (fun _ => True) w vm m) (hl : eM.R (fun _ => True) w vl l) :
    CR Tryz.prog 11 #[vm, vl] w (Lng (okM5 m ∧ ∀ b ∈ l, okV5 b)) := by
  obtain ⟨am, cm, hvm, _, hml⟩ := RL.len hm
  obtain ⟨_, _, _, _, hll⟩ := RL.len hl
  refine enter Tryz.func11 rfl Tryz.ntmps11 rfl ?_
  have htrue : ∀ {σ : Env} {W : World}, Ext w W → Kx.look σ 4 = some (.bool true) → Leave Tryz.prog Tryz.f11 41 (fun v w' => Ext w w' ∧ Lng (okM5 m ∧ ∀ b ∈ l, okV5 b) v w') σ [] W := by
    intro σ W hW hl
    exact .plain [_] Tryz.results11 ⟨hl, trivial⟩ ⟨hW, true, rfl, fun h => by cases h⟩
  refine .seq (.region (.asg rfl rfl (.nil ?_)))
  refine .mid (α := Unit) (fun _ => [(0, vm), (1, vl), (4, .bool false)]) (fun _ W => Ext w W ∧ m.length ≤ 6 ∧ colsOf m ≤ 6) ?_ ?_
  · refine .seq (.region (.mv rfl rfl (.bsl [(0, vm)] rfl rfl (by rw [hvm]; exact bsl_MM1) fun w1 b1 n1 => ?_)))
    have hmm : eMM.R (fun _ => True) w1 (.slice (some ⟨b1, 0, none⟩) 1 1) [m] := eS_new [vm] [m] n1 upT (by rw [hvm]) rfl (by decide) (Els.snoc Els.nil hm)
    refine .call _ rfl E_law04_Long rfl (law04_Long_c upT hmm) fun v2 w2 e2 h2 => .mv rfl rfl ?_
    obtain ⟨bb, rfl, _⟩ := h2
    have x2 := n1.1.trans e2
    cases bb with
    | true =>
      refine .gs rfl rfl rfl rfl rfl (.gs rfl rfl rfl rfl rfl (.gs rfl rfl rfl rfl rfl (.pick rfl rfl rfl (.mv rfl rfl (.gs rfl rfl rfl rfl rfl (.gs rfl rfl rfl rfl rfl (.gs rfl rfl rfl rfl rfl (.pick rfl rfl rfl (.mv rfl rfl (.gs rfl rfl rfl rfl rfl (.gs rfl rfl rfl rfl rfl (.pick rfl rfl rfl (.nil (.condT rfl (.seq (.region (.asg rfl rfl (.nil (.ret ?_)))))))))))))))))))
      exact htrue x2 rfl
    | false =>
    refine .gr rfl rfl rfl rfl (.mv rfl rfl (.gr rfl rfl rfl rfl (.lenR un_M rfl rfl (hm.ext x2) (.gr rfl rfl rfl rfl ?_))))
    by_cases h6 : m.length ≤ 6
    rotate_left
    · refine .gtrT rfl rfl rfl (by omega) (.pick rfl rfl rfl (.mv rfl rfl (.gs rfl rfl rfl rfl rfl (.gs rfl rfl rfl rfl rfl (.gs rfl rfl rfl rfl rfl (.pick rfl rfl rfl (.mv rfl rfl (.gs rfl rfl rfl rfl rfl (.gs rfl rfl rfl rfl rfl (.pick rfl rfl rfl (.nil (.condT rfl (.seq (.region (.asg rfl rfl (.nil (.ret ?_)))))))))))))))))
      exact htrue x2 rfl
    refine .gtrF rfl rfl rfl (by omega) (.pick rfl rfl rfl (.mv rfl rfl (.gr rfl rfl rfl rfl (.mv rfl rfl (.gr rfl rfl rfl rfl ?_)))))
    refine .call _ rfl E_ref04_Cols rfl (ref04_Cols_c (hm.ext x2)) fun v3 w3 e3 h3 => .gr rfl rfl rfl rfl ?_
    subst h3
    have x3 := x2.trans e3
    by_cases hc6 : colsOf m ≤ 6
    rotate_left
    · refine .gtrT rfl rfl rfl (by omega) (.pick rfl rfl rfl (.mv rfl rfl (.gs rfl rfl rfl rfl rfl (.gs rfl rfl rfl rfl rfl (.pick rfl rfl rfl (.nil (.condT rfl (.seq (.region (.asg rfl rfl (.nil (.ret ?_))))))))))))
      exact htrue x3 rfl
    refine .gtrF rfl rfl rfl (by omega) (.pick rfl rfl rfl (.mv rfl rfl (.gr rfl rfl rfl rfl (.mv rfl rfl (.gr rfl rfl rfl rfl ?_)))))
    refine .call _ rfl E_law03_Long rfl (law03_Long_c upT (hl.ext x3)) fun v4 w4 e4 h4 => ?_
    obtain ⟨bb, rfl, _⟩ := h4
    cases bb with
    | true => exact .pick rfl rfl rfl (.nil (.condT rfl (.seq (.region (.asg rfl rfl (.nil (.ret (htrue (x3.trans e4) rfl))))))))
    | false =>
      refine .pick rfl rfl rfl (.nil (.condF rfl (.skip ?_)))
      exact ⟨rfl, (), look_cons rfl (look_cons rfl (look_cons rfl look_nil)), x3.trans e4, h6, hc6⟩
  rintro _ W1 ⟨x1, h6, hc6⟩
  refine .mid (α := Unit) (fun _ => [(0, vm), (1, vl)]) (fun _ W => W = W1 ∧ ∀ b ∈ l, b.length ≤ 8) ?_ ?_
  · refine .seq (.region (.asg rfl rfl (.nil ?_)))
    refine .block (.loop (α := Nat) (fun i => [(0, vm), (1, vl), (5, .int .i64 (i : Nat))]) (fun i W => W = W1 ∧ i ≤ l.length ∧ ∀ j r, j < i → l[j]? = some r → r.length ≤ 8) (fun i => l.length - i) 0 ?_ ?_ ?_)
    · exact look_cons rfl (look_cons rfl (look_cons rfl look_nil))
    · exact ⟨rfl, Nat.zero_le _, fun j r hj => absurd hj (Nat.not_lt_zero _)⟩
    rintro i W ⟨rfl, hi, hall⟩
    have hlW := hl.ext x1
    refine .seq (.seq (.region (.mv rfl rfl (.mv rfl rfl (.lenR un_M rfl rfl hlW ?_)))))
    rcases Nat.lt_or_ge i l.length with hlt | hge
    rotate_left
    · refine .lssF rfl rfl rfl (by omega) (.nil (.condF rfl (.exit ?_)))
      refine ⟨rfl, (), look_cons rfl (look_cons rfl look_nil), rfl, fun b hb => ?_⟩
      obtain ⟨j, hj⟩ := List.mem_iff_getElem?.1 hb
      exact hall j b (by have := mem_lt hj; omega) hj
    have hyy := List.getElem?_eq_getElem hlt
    generalize l[i] = r at hyy
    refine .lssT rfl rfl rfl (by omega) (.nil (.condT rfl (.skip (.seq (.block (.seq (.region (.mv rfl rfl (.mv rfl rfl ?_)))))))))
    refine .ixN (i := i) un_M ty_V rfl rfl hlW rfl hyy fun p hp => .ldE ty_V rfl rfl hp fun e he => .lenR un_V rfl rfl he ?_
    by_cases h8 : r.length ≤ 8
    · refine .gtrF rfl rfl rfl (by omega) (.nil (.condF rfl (.skip (.region (.mv rfl rfl (.add rfl rfl rfl (.asg rfl rfl (.nil ?_))))))))
      rw [wI (by omega)]
      refine ⟨rfl, i + 1, look_cons rfl (look_cons rfl (look_cons rfl look_nil)), ⟨rfl, hlt, fun j r' hj hr' => ?_⟩, by show l.length - (i + 1) < l.length - i; omega⟩
      by_cases e : j = i
      · subst e; rw [hyy] at hr'; cases hr'; exact h8
      · exact hall j r' (by omega) hr'
    · exact .gtrT rfl rfl rfl (by omega) (.nil (.condT rfl (.seq (.region (.asg rfl rfl (.nil (.ret (htrue x1 rfl))))))))
  rintro _ W ⟨rfl, hl8⟩
  refine .seq (.region (.mv rfl rfl ?_))
  refine .call _ rfl E_law05_tall rfl (law05_tall_c (hm.ext x1)) fun v2 w2 e2 h2 => .mv rfl rfl ?_
  obtain ⟨bb, rfl, ht⟩ := h2
  cases bb with
  | true =>
    refine .gs rfl rfl rfl rfl rfl (.gs rfl rfl rfl rfl rfl (.pick rfl rfl rfl (.asg rfl rfl (.nil (.ret ?_)))))
    exact .plain [_] Tryz.results11 ⟨rfl, trivial⟩ ⟨x1.trans e2, true, rfl, fun h => by cases h⟩
  | false =>
    refine .gr rfl rfl rfl rfl (.mv rfl rfl (.gr rfl rfl rfl rfl ?_))
    refine .call _ rfl E_law05_tall rfl (law05_tall_c ((hl.ext x1).ext e2)) fun v3 w3 e3 h3 => ?_
    obtain ⟨bb, rfl, ht2⟩ := h3
    refine .pick rfl rfl rfl (.asg rfl rfl (.nil (.ret ?_)))
    exact .plain [_] Tryz.results11 ⟨rfl, trivial⟩ ⟨(x1.trans e2).trans e3, bb, rfl, fun h => ⟨⟨h6, hc6, ht rfl⟩, fun b hb => ⟨hl8 b hb, ht2 h b hb⟩⟩⟩

/-- equality of lists of integers -/
theorem E_ref05_Ints : Ent Tryz.prog 27 := ent_of Tryz.func27 (by kernel_rfl) rfl
theorem ref05_Ints_c {S : Nat → Prop} {w : World} {va vb : Value} {a : List Int} (ha : eI.R S w va a) (hb : eI.R S w vb a) : CR Tryz.prog 27 #[va, vb] w (Is (.bool true)) := by
  obtain ⟨_, _, _, _, hl⟩ := RL.len ha
  refine enter Tryz.func27 rfl Tryz.ntmps27 rfl ?_
  refine .seq (.region (.asg rfl rfl (.nil (.seq (.seq (.region (.mv rfl rfl (.lenR un_I rfl rfl ha (.mv rfl rfl (.lenR un_I rfl rfl hb (.neqF rfl rfl rfl rfl (.nil (.condF rfl (.skip ?_))))))))))))) )
  refine .seq (.seq (.region (.asg rfl rfl (.nil ?_))))
  refine .block (.loop (α := Nat) (fun i => [(0, va), (1, vb), (5, .int .i64 (i : Nat))]) (fun i W => Ext w W ∧ i ≤ a.length) (fun i => a.length - i) 0 ?_ ?_ ?_)
  · exact look_cons rfl (look_cons rfl (look_cons rfl look_nil))
  · exact ⟨Ext.refl _, Nat.zero_le _⟩
  rintro i W ⟨hW, hi⟩
  have haW := ER.ext eI ha hW
  have hbW := ER.ext eI hb hW
  refine .seq (.seq (.region (.mv rfl rfl (.mv rfl rfl (.lenR un_I rfl rfl haW ?_)))))
  rcases Nat.lt_or_ge i a.length with hlt | hge
  rotate_left
  · refine .lssF rfl rfl rfl (by omega) (.nil (.condF rfl (.exit (.seq (.region (.asg rfl rfl (.nil (.ret ?_))))))))
    exact .plain [_] Tryz.results27 ⟨rfl, trivial⟩ ⟨hW, rfl⟩
  have hyy := List.getElem?_eq_getElem hlt
  generalize a[i] = r at hyy
  refine .lssT rfl rfl rfl (by omega) (.nil (.condT rfl (.skip (.seq (.block (.seq ?_))))))
  refine .par follows 8 [.inl va, .inl (.int .i64 (i : Nat)), .inr (Ptr (eInt .i64) S r), .inl (.int .i64 r), .inl vb, .inl (.int .i64 (i : Nat)), .inr (Ptr (eInt .i64) S r), .inl (.int .i64 r)] [[], [], [(17, 0), (18, 1)], [(19, 2)], [], [], [(21, 4), (22, 5)], [(23, 6)]] (by kernel_rfl) ⟨
    fun w e => (v_mv rfl).ob, fun w e => (v_mv rfl).ob, fun w e => ob_ixN (i := i) un_I ty_I1 rfl (ER.ext eI haW e) rfl hyy, fun w e p hp => ob_ldI ty_I1 rfl hp,
    fun w e => (v_mv rfl).ob, fun w e => (v_mv rfl).ob, fun w e => ob_ixN (i := i) un_I ty_I1 rfl (ER.ext eI hbW e) rfl hyy, fun w e p hp => ob_ldI ty_I1 rfl hp, trivial⟩ ?_
  intro W2 e2 x2 _ x6 _
  refine .neqF rfl rfl rfl rfl (.nil (.condF rfl (.skip (.region (.mv rfl rfl (.add rfl rfl rfl (.asg rfl rfl (.nil ?_))))))))
  rw [wI (by omega)]
  exact ⟨rfl, i + 1, look_cons rfl (look_cons rfl (look_cons rfl look_nil)), ⟨hW.trans e2, hlt⟩, by show a.length - (i + 1) < a.length - i; omega⟩

theorem E_ref02_Of : Ent Tryz.prog 58 := ent_of Tryz.func58 (by kernel_rfl) rfl
theorem ref02_Of_c {S : Nat → Prop} {w : World} {n d : Int} (up : Up S w) (hn : -9223372036854775808 ≤ n ∧ n ≤ 9223372036854775807) (hd : 0 < d ∧ d ≤ 9223372036854775807) : CR Tryz.prog 58 #[.int .i64 n, .int .i64 d] w (eQ.at S (qc (Rat.divInt n d))) := by
  refine enter Tryz.func58 rfl Tryz.ntmps58 rfl ?_
  refine .seq (.region (.alloc rfl zero_Q fun w1 b4 n1 => .nil (.seq (.region (.mv rfl rfl ?_)))))
  obtain ⟨e1, k4, hb4, hs1⟩ := n1
  have hS4 : ¬ Sx S w.heap.size w1.heap.size b4 := Sx.no (by omega) (by omega)
  have up1 : Up (Sx S w.heap.size w1.heap.size) w1 := Sx.up up (Nat.le_refl _) e1.size
  refine .call _ rfl E_ref01_From rfl (ref01_From_c up1 hn.1 hn.2) fun v2 w2 e2 h2 => .mv rfl rfl ?_
  refine .call _ rfl E_ref01_From rfl (ref01_From_c (up1.ext e2.size) (by omega) hd.2) fun v3 w3 e3 h3 => ?_
  obtain ⟨s, rfl, hs⟩ := ER.ext eZ h2 e3
  obtain ⟨t, rfl, ht⟩ := h3
  refine .bld _ rfl rfl bld_Q2 ?_
  have hq : eQ.R (Sx S w.heap.size w1.heap.size) w3 (.agg #[.bool (zc n).neg, s, .bool (zc d).neg, t]) ⟨zc n, zc d⟩ := ⟨s, t, rfl, hs, ht⟩
  have hok : qok 2 ⟨zc n, zc d⟩ := ⟨zc_len (by omega), zc_len (by omega)⟩
  have hv : qval ⟨zc n, zc d⟩ = Rat.divInt n d := by
    unfold qval pn pd
    simp only [zval_zc]
    rw [if_neg (by omega), if_neg (by omega), if_neg (by omega)]
  refine .call _ rfl E_ref02_Least rfl (ref02_Least_c (up1.ext (e2.trans e3).size) hq hok (by decide) (by decide)) fun v4 w4 e4 h4 => ?_
  rw [hv] at h4
  refine .storeA (E := eQ) ty_Q rfl rfl (((k4.ext e2).ext e3).ext e4) rfl rfl h4 hS4 fun w5 k5 u5 h5 => .nil (.ret ?_)
  exact .cell Tryz.results58 rfl ty_Q rfl rfl k5 h5 ⟨u5.below (((e1.trans e2).trans e3).trans e4) (by omega), h5.out⟩
end Go.Proofs.YtccmemilofoamaaGreat

namespace Go.Proofs.YtccmemilofoamaaGreat
open Go Go.Kx Go.RowKit
def cM (l : List (List Int)) : RM := fun i k => (((l.getD i []).getD k 0 : Int) : Rat)
theorem rm_ints (l : List (List Int)) : rm (intsM l) = cM l := by funext i k; exact rm_intsM l i k
abbrev l5m : List (List Int) := [[2, 4], [1, 3]]
abbrev l5s : List (List Int) := [[1, 2], [2, 4]]
theorem cols_m : colsOf (intsM l5m) = 2 := rfl
theorem cols_s : colsOf (intsM l5s) = 2 := rfl
theorem redP_s : redP (intsM l5s) = [0] := by
  unfold redP
  rw [rm_ints, cols_s, intsM_length]
  kernel_rfl
theorem redP_m : redP (intsM l5m) = [0, 1] := by
  unfold redP
  rw [rm_ints, cols_m, intsM_length]
  kernel_rfl
theorem redF_s (i k : Nat) : redF (intsM l5s) i k = (elim 2 (cM l5s) 2).1 i k := by
  unfold redF
  rw [rm_ints, cols_s, intsM_length]; rfl
theorem redM_s : redM (intsM l5s) = intsM [[1, 2]] := by
  unfold redM
  rw [redP_s, cols_s]
  have h0 : (elim 2 (cM l5s) 2).1 0 0 = (((([[1, 2]] : List (List Int)).getD 0 []).getD 0 0 : Int) : Rat) := by kernel_rfl
  have h1 : (elim 2 (cM l5s) 2).1 0 1 = (((([[1, 2]] : List (List Int)).getD 0 []).getD 1 0 : Int) : Rat) := by kernel_rfl
  refine tabM_ints rfl (fun i hi => ?_) (fun i k hi hk => ?_)
  · match i, hi with
    | 0, _ => rfl
  · rw [redF_s]
    match i, hi, k, hk with
    | 0, _, 0, _ => exact h0
    | 0, _, 1, _ => exact h1
theorem freeC_s : freeC (intsM l5s) = [1] := by unfold freeC; rw [redP_s, cols_s]; rfl
theorem freeC_m : freeC (intsM l5m) = [] := by unfold freeC; rw [redP_m, cols_m]; rfl
theorem null_s : nullM (intsM l5s) = intsM [[-2, 1]] := by
  unfold nullM
  rw [freeC_s, redP_s, cols_s]
  have h0 : nv (redF (intsM l5s)) [0] 1 0 = -2 := by
    unfold nv
    show (if (0 : Nat) = 1 then (1 : Rat) else 0) - (0 + (if [0].getD 0 0 = 0 then redF (intsM l5s) 0 1 else 0)) = -2
    rw [redF_s]
    kernel_rfl
  have h1 : nv (redF (intsM l5s)) [0] 1 1 = 1 := by
    unfold nv
    show (if (1 : Nat) = 1 then (1 : Rat) else 0) - (0 + (if [0].getD 0 0 = 1 then redF (intsM l5s) 0 1 else 0)) = 1
    rw [redF_s]
    kernel_rfl
  show [[qc (nv (redF (intsM l5s)) [0] 1 0), qc (nv (redF (intsM l5s)) [0] 1 1)]] = _
  rw [h0, h1]; rfl
theorem null_m : nullM (intsM l5m) = [] := by unfold nullM; rw [freeC_m]; rfl
/-- the augmented matrices -/
def cA (l : List (List Int)) (b : List Int) : RM := fun i k => if i < 2 ∧ k < 3 then (if k < 2 then cM l i k else ((b.getD i 0 : Int) : Rat)) else 0
theorem aug_ints {l : List (List Int)} {b : List Int} (hl : l.length = 2) (hb : b.length = 2) (hc : colsOf (intsM l) = 2) : (augM (intsM l) (intsV b)).length = 2 ∧ colsOf (augM (intsM l) (intsV b)) = 3 ∧ rm (augM (intsM l) (intsV b)) = cA l b := by
  have h1 : max (intsM l).length (intsV b).length = 2 := by rw [intsM_length, intsV_length, hl, hb]; rfl
  refine ⟨by rw [aug_len, h1], by rw [aug_cols, h1, hc]; rfl, ?_⟩
  funext i k
  unfold augM
  rw [rm_tabM, h1, hc]
  unfold cA augF
  rw [hc, rm_intsM, rv_intsV]; rfl
theorem red_aug {l : List (List Int)} {b : List Int} (hl : l.length = 2) (hb : b.length = 2) (hc : colsOf (intsM l) = 2) : redP (augM (intsM l) (intsV b)) = (elim 2 (cA l b) 3).2 ∧ redF (augM (intsM l) (intsV b)) = (elim 2 (cA l b) 3).1 := by
  obtain ⟨h1, h2, h3⟩ := aug_ints hl hb hc
  unfold redP redF
  rw [h1, h2, h3]
  exact ⟨rfl, rfl⟩
theorem solvable_1 : solvable (intsM l5m) (intsV [6, 4]) := by
  unfold solvable
  rw [(red_aug rfl rfl cols_m).1, cols_m, show (elim 2 (cA l5m [6, 4]) 3).2 = [0, 1] by kernel_rfl]; decide
theorem solvable_2 : ¬ solvable (intsM l5s) (intsV [1, 3]) := by
  unfold solvable
  rw [(red_aug rfl rfl cols_s).1, cols_s, show (elim 2 (cA l5s [1, 3]) 3).2 = [0, 2] by kernel_rfl]; decide
theorem solvable_3 : solvable (intsM l5s) (intsV [1, 2]) := by
  unfold solvable
  rw [(red_aug rfl rfl cols_s).1, cols_s, show (elim 2 (cA l5s [1, 2]) 3).2 = [0] by kernel_rfl]; decide
theorem solX_1 : solX (intsM l5m) (intsV [6, 4]) = intsV [1, 1] := by
  unfold solX
  rw [(red_aug rfl rfl cols_m).1, (red_aug rfl rfl cols_m).2, cols_m]
  have h0 : partF (elim 2 (cA l5m [6, 4]) 3).1 (elim 2 (cA l5m [6, 4]) 3).2 2 0 = 1 := by kernel_rfl
  have h1 : partF (elim 2 (cA l5m [6, 4]) 3).1 (elim 2 (cA l5m [6, 4]) 3).2 2 1 = 1 := by kernel_rfl
  show [qc (partF (elim 2 (cA l5m [6, 4]) 3).1 (elim 2 (cA l5m [6, 4]) 3).2 2 0), qc (partF (elim 2 (cA l5m [6, 4]) 3).1 (elim 2 (cA l5m [6, 4]) 3).2 2 1)] = _
  rw [h0, h1]; rfl
theorem solX_3 : solX (intsM l5s) (intsV [1, 2]) = intsV [1, 0] := by
  unfold solX
  rw [(red_aug rfl rfl cols_s).1, (red_aug rfl rfl cols_s).2, cols_s]
  have h0 : partF (elim 2 (cA l5s [1, 2]) 3).1 (elim 2 (cA l5s [1, 2]) 3).2 2 0 = 1 := by kernel_rfl
  have h1 : partF (elim 2 (cA l5s [1, 2]) 3).1 (elim 2 (cA l5s [1, 2]) 3).2 2 1 = 0 := by kernel_rfl
  show [qc (partF (elim 2 (cA l5s [1, 2]) 3).1 (elim 2 (cA l5s [1, 2]) 3).2 2 0), qc (partF (elim 2 (cA l5s [1, 2]) 3).1 (elim 2 (cA l5s [1, 2]) 3).2 2 1)] = _
  rw [h0, h1]; rfl
theorem det_m : detM (intsM l5m) = 2 := by
  unfold detM
  rw [rm_ints, intsM_length]
  kernel_rfl
theorem inv_m : invE (intsM l5m) = elim 2 (fun i k => if k < 2 then cM l5m i k else idR i (k - 2)) 2 := by
  unfold invE
  have : invF (intsM l5m) = fun i k => if k < 2 then cM l5m i k else idR i (k - 2) := by
    funext i k
    unfold invF
    rw [intsM_length, rm_intsM]; rfl
  rw [this, intsM_length]; rfl
theorem invertible_m : invertible (intsM l5m) := by
  unfold invertible
  rw [inv_m, intsM_length, show (elim 2 (fun i k => if k < 2 then cM l5m i k else idR i (k - 2)) 2).2 = [0, 1] by kernel_rfl]; decide
theorem invM_m : invM (intsM l5m) = [[qc (Rat.divInt 3 2), qc ((-2 : Int) : Rat)], [qc (-(Rat.divInt 1 2)), qc ((1 : Int) : Rat)]] := by
  unfold invM
  rw [intsM_length, inv_m]
  have h00 : (elim 2 (fun i k => if k < 2 then cM l5m i k else idR i (k - 2)) 2).1 0 2 = Rat.divInt 3 2 := by kernel_rfl
  have h01 : (elim 2 (fun i k => if k < 2 then cM l5m i k else idR i (k - 2)) 2).1 0 3 = ((-2 : Int) : Rat) := by kernel_rfl
  have h10 : (elim 2 (fun i k => if k < 2 then cM l5m i k else idR i (k - 2)) 2).1 1 2 = -(Rat.divInt 1 2) := by kernel_rfl
  have h11 : (elim 2 (fun i k => if k < 2 then cM l5m i k else idR i (k - 2)) 2).1 1 3 = ((1 : Int) : Rat) := by kernel_rfl
  show [[qc ((elim 2 (fun i k => if k < 2 then cM l5m i k else idR i (k - 2)) 2).1 0 2), qc ((elim 2 (fun i k => if k < 2 then cM l5m i k else idR i (k - 2)) 2).1 0 3)], [qc ((elim 2 (fun i k => if k < 2 then cM l5m i k else idR i (k - 2)) 2).1 1 2), qc ((elim 2 (fun i k => if k < 2 then cM l5m i k else idR i (k - 2)) 2).1 1 3)]] = _
  rw [h00, h01, h10, h11]
end Go.Proofs.YtccmemilofoamaaGreat

namespace Go.Proofs.YtccmemilofoamaaGreat
open Go Go.Kx Go.RowKit
theorem isM_t {w : World} {va vb : Value} {a b : List (List QV)} (ha : eM.R (fun _ => True) w va a) (hb : eM.R (fun _ => True) w vb b) (h : a = b) : CR Tryz.prog 20 #[va, vb] w (Is (.bool true)) := by
  have := ref04_Is_c ha hb
  rwa [same_true h] at this
theorem isV_t {w : World} {va vb : Value} {a b : List QV} (ha : eV.R (fun _ => True) w va a) (hb : eV.R (fun _ => True) w vb b) (h : a = b) : CR Tryz.prog 19 #[va, vb] w (Is (.bool true)) := by
  have := ref03_Is_c ha hb
  rwa [same_true h] at this
theorem isQ_t {w : World} {va vb : Value} {a b : QV} (ha : eQ.R (fun _ => True) w va a) (hb : eQ.R (fun _ => True) w vb b) (h : a = b) : CR Tryz.prog 22 #[va, vb] w (Is (.bool true)) := by
  have := ref02_Is_c ha hb
  rwa [same_true h] at this
theorem bsl_V2 {x y z u x' y' z' u' : Value} : bslOf Tryz.prog 23 2 [(0, .agg #[x, y, z, u]), (1, .agg #[x', y', z', u'])] = some (37, #[x, y, z, u, x', y', z', u']) := by kernel_rfl
theorem ok5 (l : List (List Int)) (h : ∀ r ∈ l, ∀ n ∈ r, -9223372036854775808 ≤ n ∧ n ≤ 9223372036854775807) (hl : l.length ≤ 2) (hc : colsOf (intsM l) ≤ 2) : eOk 2 2 2 (intsM l) := ⟨mk_intsM h, by decide, by decide, by omega, by rw [intsM_length]; omega, hc, by decide⟩

theorem ob_V2 {w : World} {σ : Env} {d : Option Tmp} {ty : TypeId} {pos : String} {af : Array Edge} {g : Option (Nat × Bool)} {x y : Operand} {u v : Value} {a b : QV} (hu : eQ.R (fun _ => True) w u a) (hv : eQ.R (fun _ => True) w v b) (hx : ev σ x = some u := by rfl) (hy : ev σ y = some v := by rfl) :
    Gv Tryz.prog ⟨d, .buildSlice 23 2 #[(0, x), (1, y)], ty, pos, af, g⟩ σ w fun v' w' => Ext w w' ∧ Sp.ok (.inr (eV.at (fun _ => True) [a, b])) v' w' := by
  have hu' := hu
  have hv' := hv
  obtain ⟨s, t, rfl, _, _⟩ := hu'
  obtain ⟨s', t', rfl, _, _⟩ := hv'
  refine (g_bsl (ps := [(0, x), (1, y)]) [(0, .agg #[.bool a.num.neg, s, .bool a.den.neg, t]), (1, .agg #[.bool b.num.neg, s', .bool b.den.neg, t'])] (by simp [evp, hx, hy]) bsl_V2).mono fun v' w' ⟨b2, hv', n2⟩ => ⟨n2.1, fun w'' e => ?_⟩
  have hz : eV.R (fun _ => True) w' (.slice (some ⟨b2, 0, none⟩) 2 2) [a, b] := by
    refine RL.ofBlk (l := [a, b]) (es := [.agg #[.bool a.num.neg, s, .bool a.den.neg, t], .agg #[.bool b.num.neg, s', .bool b.den.neg, t']]) n2.2.1 trivial (Els.snoc (Els.snoc Els.nil (ER.ext eQ hu n2.1)) (ER.ext eQ hv n2.1)) (fun j u hu => ?_) (Nat.le_refl _) (by simp)
    simpa [cellsOf, Value.cells] using hu
  rw [hv']
  exact ER.ext eV hz e
theorem ob_M2 {w : World} {σ : Env} {d : Option Tmp} {ty : TypeId} {pos : String} {af : Array Edge} {g : Option (Nat × Bool)} {x y : Operand} {u v : Value} {a b : List QV} (hu : eV.R (fun _ => True) w u a) (hv : eV.R (fun _ => True) w v b) (hx : ev σ x = some u := by rfl) (hy : ev σ y = some v := by rfl) :
    Gv Tryz.prog ⟨d, .buildSlice 22 2 #[(0, x), (1, y)], ty, pos, af, g⟩ σ w fun v' w' => Ext w w' ∧ Sp.ok (.inr (eM.at (fun _ => True) [a, b])) v' w' := by
  obtain ⟨a1, c1, h1, _⟩ := RL.len hu
  obtain ⟨a2, c2, h2, _⟩ := RL.len hv
  refine (g_bsl (ps := [(0, x), (1, y)]) [(0, u), (1, v)] (by simp [evp, hx, hy]) (cs := #[u, v]) (e := 23) (by rw [h1, h2]; exact bsl_M2)).mono fun v' w' ⟨b2, hv', n2⟩ => ⟨n2.1, fun w'' e => ?_⟩
  have := eS_new (E := eQ) (hsz := by decide) (n := 2) [u, v] [a, b] n2 upT rfl rfl (by decide) (Els.snoc (Els.snoc Els.nil hu) hv)
  rw [hv']
  exact ER.ext eM this e
theorem ob_L2 {w : World} {σ : Env} {d : Option Tmp} {ty : TypeId} {pos : String} {af : Array Edge} {g : Option (Nat × Bool)} {m n : Int} (h : (-9223372036854775808 ≤ m ∧ m ≤ 9223372036854775807) ∧ -9223372036854775808 ≤ n ∧ n ≤ 9223372036854775807) :
    Gv Tryz.prog ⟨d, .buildSlice 72 2 #[(0, .const (.int .i64 m)), (1, .const (.int .i64 n))], ty, pos, af, g⟩ σ w fun v' w' => Ext w w' ∧ Sp.ok (.inr (eI.at (fun _ => True) [m, n])) v' w' :=
  (g_bsl (ps := [(0, .const (.int .i64 m)), (1, .const (.int .i64 n))]) _ rfl bsl_L2).mono fun v' w' ⟨b2, hv', n2⟩ => ⟨n2.1, fun w'' e => by
    rw [hv']
    exact ER.ext eI (eI_new [m, n] 2 n2 upT rfl rfl (by intro x hx; simp at hx; rcases hx with rfl | rfl; exact h.1; exact h.2) (by omega)) e⟩

theorem E_law05_alive : Ent Tryz.prog 12 := ent_of Tryz.func12 (by kernel_rfl) rfl
theorem law05_alive_c {w : World} : CR Tryz.prog 12 #[] w (Is (.bool true)) := by
  have hkm : mk_ 2 (intsM l5m) := mk_intsM (by decide)
  have hks : mk_ 2 (intsM l5s) := mk_intsM (by decide)
  refine enter Tryz.func12 rfl Tryz.ntmps12 rfl ?_
  refine .seq (.region (.asg rfl rfl (.nil (.seq (.region (.asg rfl rfl (.nil ?_)))))))
  refine .seq (.region (.mv rfl rfl (.bsl _ rfl rfl bsl_L2 fun w1 b1 n1 => .bsl _ rfl rfl bsl_L2 fun w2 b2 n2 => .bsl _ rfl rfl bsl_LL2 fun w3 b3 n3 => ?_)))
  have h1 := eI_new [2, 4] 2 n1 upT rfl rfl (by decide) (by omega)
  have h2 := eI_new [1, 3] 2 n2 upT rfl rfl (by decide) (by omega)
  have h3 := eII_new2 n3 upT (h1.ext n2.1) h2
  refine .callv [_] rfl rfl E_ref04_Ints rfl (ref04_Ints_c upT h3 (by decide) (by decide)) fun vm w4 e4 hm => ?_
  have y4 := ((n1.1.trans n2.1).trans n3.1).trans e4
  refine .mv rfl rfl (.bsl _ rfl rfl bsl_L2 fun w5 b5 n5 => .bsl _ rfl rfl bsl_L2 fun w6 b6 n6 => .bsl _ rfl rfl bsl_LL2 fun w7 b7 n7 => ?_)
  have h5 := eI_new [1, 2] 2 n5 upT rfl rfl (by decide) (by omega)
  have h6 := eI_new [2, 4] 2 n6 upT rfl rfl (by decide) (by omega)
  have h7 := eII_new2 n7 upT (h5.ext n6.1) h6
  refine .callv [_] rfl rfl E_ref04_Ints rfl (ref04_Ints_c upT h7 (by decide) (by decide)) fun vs w8 e8 hs => .asg rfl rfl (.asg rfl rfl (.nil ?_))
  have y8 := ((n5.1.trans n6.1).trans n7.1).trans e8
  have x8 := y4.trans y8
  have hm := hm.ext y8
  clear h1 h2 h3 h5 h6 h7
  replace hm : eM.R (fun _ => True) w8 vm (intsM l5m) := hm
  replace hs : eM.R (fun _ => True) w8 vs (intsM l5s) := hs
  -- Solve(m, (6, 4))
  refine .seq (.region (.mv rfl rfl (.bsl _ rfl rfl bsl_L2 fun w9 b9 n9 => ?_)))
  have h9 := eI_new [6, 4] 2 n9 upT rfl rfl (by decide) (by omega)
  refine .call _ rfl E_vec_FromInts rfl (vec_FromInts_c upT h9 (by decide)) fun v10 w10 e10 h10 => ?_
  replace h10 : eV.R (fun _ => True) w10 v10 (intsV [6, 4]) := h10
  have y10 := n9.1.trans e10
  refine .call _ rfl E_solve_Solve rfl (solve_Solve_c (L := 2) (n := 2) upT (hm.ext y10) h10 hkm (vk_intsV (by decide)) (by decide) (by rw [intsM_length]; decide) (by rw [intsV_length]; decide) (by rw [cols_m]; decide) (by rw [intsM_length, intsV_length]; decide) (by decide)) fun v11 w11 e11 h11 => ?_
  obtain ⟨vx, vf, ve, rfl, hx, hf, he⟩ := h11
  rw [if_pos solvable_1] at he
  replace he : ve = .int .i64 0 := he
  subst he
  rw [if_pos solvable_1, solX_1] at hx
  rw [if_pos solvable_1, null_m] at hf
  have x11 := (x8.trans y10).trans e11
  have z11 := y10.trans e11
  have hm := hm.ext z11
  have hs := hs.ext z11
  refine .mv rfl rfl (.ext rfl rfl rfl (.ext rfl rfl rfl (.ext rfl rfl rfl (.asg rfl rfl (.asg rfl rfl (.asg rfl rfl (.nil ?_)))))))
  -- Reduce(s)
  refine .seq (.region (.mv rfl rfl ?_))
  refine .call _ rfl E_solve_Reduce rfl (solve_Reduce_c upT hs (ok5 l5s (by decide) (by decide) (by rw [cols_s]; decide))) fun v12 w12 e12 h12 => ?_
  obtain ⟨vr, vp, rfl, hr, hp⟩ := h12
  rw [redM_s] at hr
  rw [redP_s] at hp
  refine .mv rfl rfl (.ext rfl rfl rfl (.ext rfl rfl rfl (.asg rfl rfl (.asg rfl rfl (.nil ?_)))))
  -- NullSpace(s)
  refine .seq (.region (.mv rfl rfl ?_))
  refine .call _ rfl E_solve_NullSpace rfl (solve_NullSpace_c upT (hs.ext e12) (ok5 l5s (by decide) (by decide) (by rw [cols_s]; decide))) fun vn w13 e13 hn => .asg rfl rfl (.nil ?_)
  rw [null_s] at hn
  have z13 := e12.trans e13
  have hs := hs.ext z13
  have hm := hm.ext z13
  have hx := hx.ext z13
  have hf := hf.ext z13
  have hr := hr.ext e13
  have hp := hp.ext e13
  have x13 := x11.trans z13
  -- Solve(s, (1, 3))
  refine .seq (.region (.mv rfl rfl (.bsl _ rfl rfl bsl_L2 fun w14 b14 n14 => ?_)))
  have h14 := eI_new [1, 3] 2 n14 upT rfl rfl (by decide) (by omega)
  refine .call _ rfl E_vec_FromInts rfl (vec_FromInts_c upT h14 (by decide)) fun v15 w15 e15 h15 => ?_
  replace h15 : eV.R (fun _ => True) w15 v15 (intsV [1, 3]) := h15
  have y15 := n14.1.trans e15
  refine .call _ rfl E_solve_Solve rfl (solve_Solve_c (L := 2) (n := 2) upT (hs.ext y15) h15 hks (vk_intsV (by decide)) (by decide) (by rw [intsM_length]; decide) (by rw [intsV_length]; decide) (by rw [cols_s]; decide) (by rw [intsM_length, intsV_length]; decide) (by decide)) fun v16 w16 e16 h16 => ?_
  obtain ⟨_, _, ve2, rfl, _, _, he2⟩ := h16
  rw [if_neg solvable_2] at he2
  replace he2 : ve2 = .int .i64 8 := he2
  subst he2
  have z16 := y15.trans e16
  refine .mv rfl rfl (.ext rfl rfl rfl (.ext rfl rfl rfl (.ext rfl rfl rfl (.asg rfl rfl (.asg rfl rfl (.asg rfl rfl (.nil ?_)))))))
  -- Solve(s, (1, 2))
  refine .seq (.region (.mv rfl rfl (.bsl _ rfl rfl bsl_L2 fun w17 b17 n17 => ?_)))
  have h17 := eI_new [1, 2] 2 n17 upT rfl rfl (by decide) (by omega)
  refine .call _ rfl E_vec_FromInts rfl (vec_FromInts_c upT h17 (by decide)) fun v18 w18 e18 h18 => ?_
  replace h18 : eV.R (fun _ => True) w18 v18 (intsV [1, 2]) := h18
  have y18 := (z16.trans n17.1).trans e18
  refine .call _ rfl E_solve_Solve rfl (solve_Solve_c (L := 2) (n := 2) upT (hs.ext y18) h18 hks (vk_intsV (by decide)) (by decide) (by rw [intsM_length]; decide) (by rw [intsV_length]; decide) (by rw [cols_s]; decide) (by rw [intsM_length, intsV_length]; decide) (by decide)) fun v19 w19 e19 h19 => ?_
  obtain ⟨vz, _, ve3, rfl, hz, _, he3⟩ := h19
  rw [if_pos solvable_3] at he3
  replace he3 : ve3 = .int .i64 0 := he3
  subst he3
  rw [if_pos solvable_3, solX_3] at hz
  have z19 := y18.trans e19
  have hm := hm.ext z19
  refine .mv rfl rfl (.ext rfl rfl rfl (.ext rfl rfl rfl (.ext rfl rfl rfl (.asg rfl rfl (.asg rfl rfl (.asg rfl rfl (.nil ?_)))))))
  -- Det(m)
  refine .seq (.region (.mv rfl rfl ?_))
  refine .call _ rfl E_solve_Det rfl (solve_Det_c (L := 2) (n := 2) upT hm hkm (by decide) (by rw [intsM_length]; decide) (by rw [cols_m]; decide) (by decide) (by decide)) fun v20 w20 e20 h20 => ?_
  obtain ⟨vd, ve4, rfl, hd, he4⟩ := h20
  have hsq : colsOf (intsM l5m) = (intsM l5m).length := by rw [cols_m, intsM_length]; rfl
  rw [if_pos hsq] at he4
  replace he4 : ve4 = .int .i64 0 := he4
  subst he4
  rw [if_pos hsq, det_m] at hd
  refine .mv rfl rfl (.ext rfl rfl rfl (.ext rfl rfl rfl (.alloc rfl zero_Q fun w21 b16 n21 => ?_)))
  obtain ⟨e21, k16, hb16, hs21⟩ := n21
  refine .storeA (E := eQ) ty_Q rfl rfl k16 rfl rfl (S := fun k => True ∧ k < w20.heap.size) ((ER.lt eQ hd).ext e21) (fun h => by have := h.2; omega) fun w22 k16 u22 hd => .asg rfl rfl (.nil ?_)
  have x22 : Ext w20 w22 := u22.below e21 (by omega)
  have hdv := shpA rfl hd
  have hd : eQ.R (fun _ => True) w22 vd (qc 2) := eQ.mono (fun _ _ _ => trivial) hd
  -- Inverse(m)
  refine .seq (.region (.mv rfl rfl ?_))
  refine .call _ rfl E_solve_Inverse rfl (solve_Inverse_c (L := 2) (n := 2) upT ((hm.ext e20).ext x22) hkm (by decide) (by rw [intsM_length]; decide) (by rw [cols_m]; decide) (by decide) (by decide)) fun v23 w23 e23 h23 => ?_
  obtain ⟨vv, ve5, rfl, hv, he5⟩ := h23
  rw [if_pos hsq, if_pos invertible_m] at he5
  replace he5 : ve5 = .int .i64 0 := he5
  subst he5
  rw [if_pos ⟨hsq, invertible_m⟩, invM_m] at hv
  refine .mv rfl rfl (.ext rfl rfl rfl (.ext rfl rfl rfl (.asg rfl rfl (.asg rfl rfl (.nil ?_)))))
  have z23 := (e20.trans x22).trans e23
  have z13_23 := z19.trans z23
  have x23 := x13.trans z13_23
  have hx := hx.ext z13_23
  have hf := hf.ext z13_23
  have hr := hr.ext z13_23
  have hp := hp.ext z13_23
  have hn := hn.ext z13_23
  have hz := hz.ext z23
  have k16 := k16.ext e23
  have hd := hd.ext e23
  clear hs hm
  -- the first tests
  refine .seq (.seq (.region (.mv rfl rfl (.bsl _ rfl rfl bsl_L2 fun w24 b24 n24 => ?_))))
  have h24 := eI_new [1, 1] 2 n24 upT rfl rfl (by decide) (by omega)
  refine .call _ rfl E_vec_FromInts rfl (vec_FromInts_c upT h24 (by decide)) fun v25 w25 e25 h25 => ?_
  have y25 := n24.1.trans e25
  refine .call _ rfl E_ref03_Is rfl (isV_t (hx.ext y25) h25 rfl) fun v26 w26 e26 h26 => ?_
  subst h26
  have y26 := y25.trans e26
  refine .not_ rfl rfl (.mv rfl rfl (.gr rfl rfl rfl rfl (.mv rfl rfl (.gr rfl rfl rfl rfl (.lenR un_M rfl rfl (hf.ext y26) (.gr rfl rfl rfl rfl (.neqF rfl rfl rfl rfl (.pick rfl rfl rfl (.mv rfl rfl ?_)))))))))
  refine .gr rfl rfl rfl rfl (.mv rfl rfl (.gr rfl rfl rfl rfl (.neqF rfl rfl rfl rfl (.pick rfl rfl rfl (.mv rfl rfl ?_)))))
  refine .gr rfl rfl rfl rfl (.mv rfl rfl (.gr rfl rfl rfl rfl (.mv rfl rfl (.gr rfl rfl rfl rfl (.bsl _ rfl rfl bsl_L2 fun w27 b27 n27 => .gr rfl rfl rfl rfl (.bsl _ rfl rfl bsl_LL1 fun w28 b28 n28 => .gr rfl rfl rfl rfl ?_))))))
  have h27 := eI_new [1, 2] 2 n27 upT rfl rfl (by decide) (by omega)
  have h28 := eII_new1 n28 upT h27
  refine .callv [_] rfl rfl E_ref04_Ints rfl (ref04_Ints_c upT h28 (by decide) (by decide)) fun v29 w29 e29 h29 => .gr rfl rfl rfl rfl ?_
  have y29 := ((y26.trans n27.1).trans n28.1).trans e29
  refine .call _ rfl E_ref04_Is rfl (isM_t (hr.ext y29) h29 rfl) fun v30 w30 e30 h30 => .gr rfl rfl rfl rfl ?_
  subst h30
  have y30 := y29.trans e30
  refine .not_ rfl rfl (.pick rfl rfl rfl (.mv rfl rfl (.gr rfl rfl rfl rfl (.mv rfl rfl (.gr rfl rfl rfl rfl (.bsl _ rfl rfl bsl_I1 fun w31 b31 n31 => .gr rfl rfl rfl rfl ?_))))))
  have h31 := eI_new [0] 1 n31 upT rfl rfl (by decide) (by omega)
  have y31 := y30.trans n31.1
  refine .call _ rfl E_ref05_Ints rfl (ref05_Ints_c (a := [0]) (hp.ext y31) h31) fun v32 w32 e32 h32 => .gr rfl rfl rfl rfl ?_
  subst h32
  have y32 := y31.trans e32
  refine .not_ rfl rfl (.pick rfl rfl rfl (.mv rfl rfl (.gr rfl rfl rfl rfl (.mv rfl rfl (.gr rfl rfl rfl rfl (.mv rfl rfl (.gr rfl rfl rfl rfl (.bsl _ rfl rfl bsl_L2 fun w33 b33 n33 => .gr rfl rfl rfl rfl (.bsl _ rfl rfl bsl_LL1 fun w34 b34 n34 => .gr rfl rfl rfl rfl ?_)))))))))
  have h33 := eI_new [-2, 1] 2 n33 upT rfl rfl (by decide) (by omega)
  have h34 := eII_new1 n34 upT h33
  refine .callv [_] rfl rfl E_ref04_Ints rfl (ref04_Ints_c upT h34 (by decide) (by decide)) fun v35 w35 e35 h35 => .gr rfl rfl rfl rfl ?_
  have y35 := ((y32.trans n33.1).trans n34.1).trans e35
  refine .call _ rfl E_ref04_Is rfl (isM_t (hn.ext y35) h35 rfl) fun v36 w36 e36 h36 => .gr rfl rfl rfl rfl ?_
  subst h36
  have y36 := y35.trans e36
  refine .not_ rfl rfl (.pick rfl rfl rfl (.mv rfl rfl (.gr rfl rfl rfl rfl (.mv rfl rfl (.gr rfl rfl rfl rfl (.neqF rfl rfl rfl rfl (.pick rfl rfl rfl (.nil (.condF rfl (.skip ?_))))))))))
  have hz := hz.ext y36
  have hv := hv.ext y36
  have k16 := k16.ext y36
  have hd := hd.ext y36
  have x36 := x23.trans y36
  -- the half
  refine .seq (.region ?_)
  refine .call _ rfl E_ref02_Of rfl (ref02_Of_c upT (by decide) (by decide)) fun v37 w37 e37 h37 => .alloc rfl zero_Q fun w38 b20 n38 => ?_
  obtain ⟨e38, k20, hb20, hs38⟩ := n38
  refine .storeA (E := eQ) ty_Q rfl rfl k20 rfl rfl (S := fun k => True ∧ k < w37.heap.size) ((ER.lt eQ h37).ext e38) (fun h => by have := h.2; omega) fun w39 k20 u39 hh => .nil ?_
  have x39 : Ext w36 w39 := (e37.trans (u39.below e38 (by omega)))
  have hhv := shpA rfl hh
  have hh : eQ.R (fun _ => True) w39 v37 (qc (Rat.divInt 1 2)) := eQ.mono (fun _ _ _ => trivial) hh
  have hz := hz.ext x39
  have hv := hv.ext x39
  have k16 := k16.ext x39
  have hd := hd.ext x39
  have x39 := x36.trans x39
  refine .seq ?_
  refine .par follows 8 [.inr (eQ.at (fun _ => True) (qc (Rat.divInt 3 2))), .inr (eQ.at (fun _ => True) (qc ((-2 : Int) : Rat))), .inr (eV.at (fun _ => True) [qc (Rat.divInt 3 2), qc ((-2 : Int) : Rat)]), .inl v37, .inr (eQ.at (fun _ => True) (qc (-(Rat.divInt 1 2)))), .inr (eQ.at (fun _ => True) (qc ((1 : Int) : Rat))), .inr (eV.at (fun _ => True) [qc (-(Rat.divInt 1 2)), qc ((1 : Int) : Rat)]), .inr (eM.at (fun _ => True) [[qc (Rat.divInt 3 2), qc ((-2 : Int) : Rat)], [qc (-(Rat.divInt 1 2)), qc ((1 : Int) : Rat)]])]
    [[], [], [(116, 0), (117, 1)], [], [(119, 3)], [], [(120, 4), (121, 5)], [(118, 2), (122, 6)]] (by kernel_rfl) ⟨
    fun w e => (g_call _ E_ref02_Of rfl (ref02_Of_c upT (by decide) (by decide))).ob (st_at _ _ _),
    fun w e => (g_call _ E_ref02_Int rfl (ref02_Int_c upT (by decide) (by decide))).ob (st_at _ _ _),
    fun w e x hx y hy => ob_V2 hx hy,
    fun w e => ((v_ldA ty_Q rfl (k20.ext e) (eQ.csz hh)).eq hhv.symm).ob,
    fun w e => by
      have := ref02_Neg_c (L := 2) upT (ER.ext eQ hh e) (Rsz.toOk ⟨by decide +kernel, by decide +kernel⟩) (by decide) (by decide)
      rw [qval_qc] at this
      exact (g_call _ E_ref02_Neg rfl this).ob (st_at _ _ _),
    fun w e => (g_call _ E_ref02_Int rfl (ref02_Int_c upT (by decide) (by decide))).ob (st_at _ _ _),
    fun w e x hx y hy => ob_V2 hx hy,
    fun w e x hx y hy => ob_M2 hx hy, trivial⟩ ?_
  intro w40 e40 y0 _ y1 _ y2 _ y4 _ y5 _ y6 _ y7 hw
  refine .asg rfl rfl (.nil (.seq ?_))
  have hz := hz.ext e40
  have hv := hv.ext e40
  have k16 := k16.ext e40
  have hd := hd.ext e40
  have x40 := x39.trans e40
  refine .par follows 26 [.inl vz, .inr (eI.at (fun _ => True) [1, 0]), .inr (eV.at (fun _ => True) (intsV [1, 0])), .inl (.bool true), .inl (.bool true), .inl (.int .i64 0), .inl (.bool true), .inl (.bool true), .inl (.bool true), .inl vd, .inr (eQ.at (fun _ => True) (qc ((2 : Int) : Rat))), .inl (.bool true), .inl (.bool true), .inl (.bool true), .inl (.int .i64 0), .inl (.bool true), .inl (.bool true), .inl (.bool true), .inl vv, .inl y7, .inl (.bool true), .inl (.bool true), .inl (.bool true), .inl (.int .i64 0), .inl (.bool true), .inl (.bool true)]
    [[], [], [(125, 1)], [(124, 0), (126, 2)], [(127, 3)], [(128, 4)], [(129, 5), (128, 4)], [(128, 4), (130, 6)], [(131, 7)], [(132, 8)], [(132, 8)], [(133, 9), (134, 10), (132, 8)], [(132, 8), (135, 11)], [(136, 12)], [(137, 13)], [(138, 14), (137, 13)], [(137, 13), (139, 15)], [(140, 16)], [(141, 17)], [(141, 17)], [(142, 18), (143, 19), (141, 17)], [(141, 17), (144, 20)], [(145, 21)], [(146, 22)], [(147, 23), (146, 22)], [(146, 22), (148, 24)]] (by kernel_rfl) ⟨
    fun w e => (v_mv rfl).ob,
    fun w e => ob_L2 (by decide),
    fun w e x hx => (g_call _ E_vec_FromInts rfl (vec_FromInts_c upT hx (by decide))).ob (st_at _ _ _),
    fun w e x hx => (g_call _ E_ref03_Is rfl (isV_t (ER.ext eV hz e) hx rfl)).obIs,
    fun w e => (v_mv rfl).ob, fun w e => (v_mv rfl).ob, fun w e => (v_eql (m := 0) (n := 0) rfl rfl).ob, fun w e => (v_pickT rfl rfl).ob, fun w e => (v_mv rfl).ob,
    fun w e => ((v_ldA ty_Q rfl (k16.ext e) (eQ.csz hd)).eq hdv.symm).ob,
    fun w e => (g_call _ E_ref02_Int rfl (ref02_Int_c upT (by decide) (by decide))).ob (st_at _ _ _),
    fun w e x hx => (g_call _ E_ref02_Is rfl (isQ_t (ER.ext eQ hd e) hx rfl)).obIs,
    fun w e => (v_pickT rfl rfl).ob, fun w e => (v_mv rfl).ob, fun w e => (v_mv rfl).ob, fun w e => (v_eql (m := 0) (n := 0) rfl rfl).ob, fun w e => (v_pickT rfl rfl).ob, fun w e => (v_mv rfl).ob, fun w e => (v_mv rfl).ob, fun w e => (v_mv rfl).ob,
    fun w e => (g_call _ E_ref04_Is rfl (isM_t (ER.ext eM hv e) (ER.ext eM hw e) rfl)).obIs,
    fun w e => (v_pickT rfl rfl).ob, fun w e => (v_mv rfl).ob, fun w e => (v_mv rfl).ob, fun w e => (v_eql (m := 0) (n := 0) rfl rfl).ob, fun w e => (v_pickT rfl rfl).ob, trivial⟩ ?_
  intro w41 e41 y1 _ y2 _ y10 _
  refine .asg rfl rfl (.nil (.ret ?_))
  exact .plain [_] Tryz.results12 ⟨rfl, trivial⟩ ⟨x40.trans e41, rfl⟩

end Go.Proofs.YtccmemilofoamaaGreat

namespace Go.Kx
section
variable {n N C CA : Nat} {g A : RM} {p : List Nat}
end
end Go.Kx

namespace Go.Proofs.YtccmemilofoamaaGreat
open Go Go.Kx Go.RowKit
section
variable {m : List (List QV)} {b : List QV}
end
end Go.Proofs.YtccmemilofoamaaGreat

namespace Go.Proofs.YtccmemilofoamaaGreat
open Go Go.Kx Go.RowKit
theorem okM5.mr {W : World} {v : Value} {m : List (List QV)} (h : okM5 m) (hr : eM.R (fun _ => True) W v m) : MR W v 6 6 2 m := ⟨hr, h.rows, h.cols, eM_mk hr h.q (by decide)⟩
theorem okV5.vr {W : World} {v : Value} {a : List QV} (h : okV5 a) (hr : eV.R (fun _ => True) W v a) : VR W v 8 2 a := ⟨hr, h.len, eV_vk hr h.q (by decide)⟩
section
variable {W W' : World} {v va vb : Value} {n c n' c' L L' : Nat} {a b m : List (List QV)} {x y : List QV}
theorem eqQW {x y : QV} (hx : eQ.R (fun _ => True) W va x) (hy : eQ.R (fun _ => True) W vb y) (hkx : qok L x) (hky : qok L y) (h1 : 1 ≤ L := by decide) (h2 : L ≤ 100000000000 := by decide) (he : qval x = qval y) : CR Tryz.prog 36 #[va, vb] W (Is (.bool true)) := by
  have := frac_Equal_c upT hx hy hkx hky h1 h2
  rwa [decide_eq_true he] at this
end
end Go.Proofs.YtccmemilofoamaaGreat

namespace Go.Proofs.YtccmemilofoamaaGreat
open Go Go.Kx Go.RowKit
theorem rsz1 {L : Nat} (hL : 1 ≤ L) : Rsz 1 L := by
  have := Rsz.int 1 (L := L) (Nat.lt_of_lt_of_le (by decide) (Nat.pow_le_pow_right (by decide) hL)) hL
  simpa using this
theorem elimD_rsz {n C L M : Nat} {f : RM} (hL : 1 ≤ L) (hM : bd L n ≤ M) (h : ∀ i k, i < n → k < C → Rsz (f i k) L) : ∀ c, c ≤ C → Rsz (elimD n f c) (1 + (elim n f c).2.length * M)
  | 0, _ => (rsz1 (L := 1) (by decide)).mono (Nat.le_add_right _ _)
  | c + 1, hc => by
    have ih := elimD_rsz hL hM h c (by omega)
    have hl := (elim_ech n f c).len
    have e1 : elim n f (c + 1) = estep n c (elim n f c) := rfl
    have e2 : elimD n f (c + 1) = estepD n c (elim n f c) (elimD n f c) := rfl
    rw [e1, e2]
    unfold estep estepD
    cases hr : pivRow (elim n f c).1 c (n - (elim n f c).2.length) (elim n f c).2.length with
    | none => exact ih
    | some r =>
      obtain ⟨h1, h2, h3, _⟩ := pivRow_some hr
      have h4 := (elim_rsz hL h c (by omega) r c (by omega) (by omega)).mono (Nat.le_trans (bd_mono L hl) hM)
      simp only [List.length_append, List.length_cons, List.length_nil]
      refine (Rsz.mul (L := 1 + (elim n f c).2.length * M) (M := M) ?_ h4).mono (by rw [Nat.add_mul]; omega)
      split
      · exact ih
      · exact ih.neg
theorem det_rsz {L M : Nat} {m : List (List QV)} (hk : mk_ L m) (hL : 1 ≤ L) (hM : bd L m.length ≤ M) : Rsz (detM m) (1 + m.length * M) := by
  unfold detM detE
  split
  · exact Rsz.zero (by omega)
  · refine (elimD_rsz (C := m.length) hL hM (fun i k _ _ => hk.rsz hL i k) m.length (Nat.le_refl _)).mono ?_
    have := Nat.mul_le_mul_right M (elim_ech m.length (rm m) m.length).len
    omega
section
variable {m : List (List QV)} {b : List QV}
end
end Go.Proofs.YtccmemilofoamaaGreat

namespace Go.Proofs.YtccmemilofoamaaGreat
open Go Go.Kx Go.RowKit
section
variable {m : List (List QV)} {b z : List QV}
end
end Go.Proofs.YtccmemilofoamaaGreat

namespace Go.Proofs.YtccmemilofoamaaGreat
open Go Go.Kx Go.RowKit
end Go.Proofs.YtccmemilofoamaaGreat

namespace Go.Proofs.YtccmemilofoamaaGreat
open Go Go.Kx Go.RowKit
section
variable {m : List (List QV)}
end
end Go.Proofs.YtccmemilofoamaaGreat

namespace Go.Kx
open Go Go.RowKit
theorem Els.append {α : Type} {E : ER α} {S : Nat → Prop} {w : World} {es fs : List Value} {l s : List α} (h : Els E S w es l) (h' : Els E S w fs s) : Els E S w (es ++ fs) (l ++ s) := by
  refine ⟨by rw [List.length_append, List.length_append, h.1, h'.1], fun i e x he hx => ?_⟩
  rw [List.getElem?_append] at he hx
  rw [h.1] at he
  split at he
  · rename_i hi
    rw [if_pos hi] at hx
    exact h.2 i e x he hx
  · rename_i hi
    rw [if_neg hi] at hx
    exact h'.2 _ e x he hx
section
variable {P : Program} {σ : Env} {w : World} {d : Option Tmp} {ty : TypeId} {pos : String} {af : Array Edge} {g : Option (Nat × Bool)} {α : Type} {E : ER α}
end
end Go.Kx

namespace Go.Proofs.YtccmemilofoamaaGreat
open Go Go.Kx Go.RowKit
end Go.Proofs.YtccmemilofoamaaGreat

namespace Go.Proofs.YtccmemilofoamaaGreat
open Go Go.Kx Go.RowKit
theorem cut_nat {n : Nat} (h : n ≤ 1024) : cutN (n : Int) = n := by unfold cutN; omega
theorem detM_of {m : List (List QV)} {n : Nat} {f : RM} (hl : m.length = n) (h : Agf n n (rm m) f) : detM m = det n f := by
  unfold detM
  rw [hl, ← det_eq]
  exact det_congr h
theorem detM_eq (m : List (List QV)) : detM m = det m.length (rm m) := (det_eq _ _).symm
theorem det_tab {n : Nat} (f : RM) : detM (tabM n n f) = det n f := detM_of (tabM_length ..) fun i k hi hk => by rw [rm_tabM, if_pos ⟨hi, hk⟩]
theorem detM_mul {m n : List (List QV)} (h1 : n.length = m.length) (h2 : colsOf n = m.length) : detM (tabM m.length m.length (rm (mulM m n))) = detM m * detM n := by
  rw [det_tab, detM_eq m, detM_eq n, h1, ← det_mul]
  refine det_congr fun i k hi hk => ?_
  unfold mulM
  rw [rm_tabM, if_pos ⟨hi, by rw [h2]; exact hk⟩]
  unfold mmul mulR
  rw [h1]
theorem detM_tr {m : List (List QV)} (hc : colsOf m = m.length) : detM (trM m) = detM m := by
  unfold trM
  rw [hc, det_tab, detM_eq m, ← det_trn]
  rfl
theorem tr_sq {m : List (List QV)} (hc : colsOf m = m.length) (h : 2 ≤ m.length) : (trM m).length = m.length ∧ colsOf (trM m) = m.length := by
  unfold trM
  rw [tabM_length, cols_tabM, if_neg (by omega)]
  exact ⟨hc, rfl⟩
theorem law05_SolveDeterminant_c {w : World} {vm vn vk_ : Value} {m n : List (List QV)} {i j : Int} {k : QV} (hm : eM.R (fun _ => True) w vm m) (hn : eM.R (fun _ => True) w vn n) (hi0 : 0 ≤ i) (hi1 : i ≤ 255) (hj0 : 0 ≤ j) (hj1 : j ≤ 255) (hk : eQ.R (fun _ => True) w vk_ k) :
    CR Tryz.prog 6 #[vm, vn, .int .u8 i, .int .u8 j, vk_] w (Is (.bool true)) := by
  obtain ⟨s, t, rfl, hs, ht⟩ := hk
  have hk : eQ.R (fun _ => True) w (.agg #[.bool k.num.neg, s, .bool k.den.neg, t]) k := ⟨s, t, rfl, hs, ht⟩
  refine enter Tryz.func6 rfl Tryz.ntmps6 rfl ?_
  refine .seq (.region (.box rfl rfl fun w1 b9 n1 => .asg rfl rfl (.nil ?_)))
  obtain ⟨e1, k9, hb9, hs1⟩ := n1
  refine .mid (α := Unit) (fun _ => [(0, vm), (1, vn), (2, .int .u8 i), (3, .int .u8 j), (9, .pointer (some ⟨b9, 0, none⟩))]) (fun _ W => Ext w1 W ∧ okM5 m ∧ okM5 n ∧ qok 6 k ∧ colsOf m = m.length ∧ n.length = m.length ∧ colsOf n = m.length ∧ 2 ≤ m.length) ?_ ?_
  · refine .seq (.region (.mv rfl rfl ?_))
    refine .call _ rfl E_law05_long rfl (law05_long_c (l := []) (hm.ext e1) RL.nil) fun v2 w2 e2 h2 => .mv rfl rfl ?_
    obtain ⟨bb, rfl, hlm⟩ := h2
    have x2 := e1.trans e2
    cases bb with
    | true =>
      refine .gs rfl rfl rfl rfl rfl (.gs rfl rfl rfl rfl rfl (.pick rfl rfl rfl (.mv rfl rfl (.gs rfl rfl rfl rfl rfl (.gs rfl rfl rfl rfl rfl (.gs rfl rfl rfl rfl rfl (.pick rfl rfl rfl (.mv rfl rfl (.gs rfl rfl rfl rfl rfl (.gs rfl rfl rfl rfl rfl (.gs rfl rfl rfl rfl rfl (.gs rfl rfl rfl rfl rfl (.gs rfl rfl rfl rfl rfl (.pick rfl rfl rfl (.mv rfl rfl (.gs rfl rfl rfl rfl rfl (.gs rfl rfl rfl rfl rfl (.gs rfl rfl rfl rfl rfl (.gs rfl rfl rfl rfl rfl (.gs rfl rfl rfl rfl rfl (.pick rfl rfl rfl (.mv rfl rfl (.gs rfl rfl rfl rfl rfl (.gs rfl rfl rfl rfl rfl (.gs rfl rfl rfl rfl rfl (.gs rfl rfl rfl rfl rfl (.gs rfl rfl rfl rfl rfl (.pick rfl rfl rfl (.mv rfl rfl (.gs rfl rfl rfl rfl rfl (.gs rfl rfl rfl rfl rfl (.gs rfl rfl rfl rfl rfl (.pick rfl rfl rfl (.nil (.condT rfl (.seq (.region ?_)))))))))))))))))))))))))))))))))))))
      refine .call _ rfl E_law05_alive rfl law05_alive_c fun va wa ea ha => .asg rfl rfl (.nil (.ret ?_))
      exact .plain [_] Tryz.results6 ⟨rfl, trivial⟩ ⟨x2.trans ea, ha⟩
    | false =>
    obtain ⟨okm, _⟩ := hlm rfl
    refine .gr rfl rfl rfl rfl (.mv rfl rfl (.gr rfl rfl rfl rfl (?_)))
    refine .call _ rfl E_law05_long rfl (law05_long_c (l := []) (hn.ext x2) RL.nil) fun v3 w3 e3 h3 => .pick rfl rfl rfl (.mv rfl rfl ?_)
    obtain ⟨bb, rfl, hln⟩ := h3
    have x3 := x2.trans e3
    cases bb with
    | true =>
      refine .gs rfl rfl rfl rfl rfl (.gs rfl rfl rfl rfl rfl (.gs rfl rfl rfl rfl rfl (.pick rfl rfl rfl (.mv rfl rfl (.gs rfl rfl rfl rfl rfl (.gs rfl rfl rfl rfl rfl (.gs rfl rfl rfl rfl rfl (.gs rfl rfl rfl rfl rfl (.gs rfl rfl rfl rfl rfl (.pick rfl rfl rfl (.mv rfl rfl (.gs rfl rfl rfl rfl rfl (.gs rfl rfl rfl rfl rfl (.gs rfl rfl rfl rfl rfl (.gs rfl rfl rfl rfl rfl (.gs rfl rfl rfl rfl rfl (.pick rfl rfl rfl (.mv rfl rfl (.gs rfl rfl rfl rfl rfl (.gs rfl rfl rfl rfl rfl (.gs rfl rfl rfl rfl rfl (.gs rfl rfl rfl rfl rfl (.gs rfl rfl rfl rfl rfl (.pick rfl rfl rfl (.mv rfl rfl (.gs rfl rfl rfl rfl rfl (.gs rfl rfl rfl rfl rfl (.gs rfl rfl rfl rfl rfl (.pick rfl rfl rfl (.nil (.condT rfl (.seq (.region ?_)))))))))))))))))))))))))))))))))
      refine .call _ rfl E_law05_alive rfl law05_alive_c fun va wa ea ha => .asg rfl rfl (.nil (.ret ?_))
      exact .plain [_] Tryz.results6 ⟨rfl, trivial⟩ ⟨x3.trans ea, ha⟩
    | false =>
    obtain ⟨okn, _⟩ := hln rfl
    refine .gr rfl rfl rfl rfl (.ldA ty_Q rfl rfl ((k9.ext e2).ext e3) rfl (.gr rfl rfl rfl rfl (.bsl _ rfl rfl bsl_V1 fun w4 b4 n4 => .gr rfl rfl rfl rfl (?_))))
    have h4 : eV.R (fun _ => True) w4 (.slice (some ⟨b4, 0, none⟩) 1 1) [k] := RL.ofBlk (l := [k]) (es := [.agg #[.bool k.num.neg, s, .bool k.den.neg, t]]) n4.2.1 trivial (Els.snoc Els.nil (ER.ext eQ (hk.ext x3) n4.1)) (fun j u hu => by simpa [cellsOf, Value.cells] using hu) (Nat.le_refl _) (by simp)
    refine .call _ rfl E_law02_Long rfl (law02_Long_c upT h4) fun v5 w5 e5 h5 => .pick rfl rfl rfl (.mv rfl rfl ?_)
    obtain ⟨bb, rfl, hlk⟩ := h5
    have x5 := (x3.trans n4.1).trans e5
    have y5 := ((e2.trans e3).trans n4.1).trans e5
    cases bb with
    | true =>
      refine .gs rfl rfl rfl rfl rfl (.gs rfl rfl rfl rfl rfl (.gs rfl rfl rfl rfl rfl (.gs rfl rfl rfl rfl rfl (.gs rfl rfl rfl rfl rfl (.pick rfl rfl rfl (.mv rfl rfl (.gs rfl rfl rfl rfl rfl (.gs rfl rfl rfl rfl rfl (.gs rfl rfl rfl rfl rfl (.gs rfl rfl rfl rfl rfl (.gs rfl rfl rfl rfl rfl (.pick rfl rfl rfl (.mv rfl rfl (.gs rfl rfl rfl rfl rfl (.gs rfl rfl rfl rfl rfl (.gs rfl rfl rfl rfl rfl (.gs rfl rfl rfl rfl rfl (.gs rfl rfl rfl rfl rfl (.pick rfl rfl rfl (.mv rfl rfl (.gs rfl rfl rfl rfl rfl (.gs rfl rfl rfl rfl rfl (.gs rfl rfl rfl rfl rfl (.pick rfl rfl rfl (.nil (.condT rfl (.seq (.region ?_))))))))))))))))))))))))))))
      refine .call _ rfl E_law05_alive rfl law05_alive_c fun va wa ea ha => .asg rfl rfl (.nil (.ret ?_))
      exact .plain [_] Tryz.results6 ⟨rfl, trivial⟩ ⟨x5.trans ea, ha⟩
    | false =>
    have okk := hlk rfl k (by simp)
    refine .gr rfl rfl rfl rfl (.mv rfl rfl (.gr rfl rfl rfl rfl (.lenR un_M rfl rfl (hm.ext x5) (.gr rfl rfl rfl rfl (.mv rfl rfl (.gr rfl rfl rfl rfl (?_)))))))
    refine .call _ rfl E_mat_Cols rfl (mat_Cols_c (hm.ext x5)) fun v6 w6 e6 h6 => .gr rfl rfl rfl rfl ?_
    subst h6
    have x6 := x5.trans e6
    by_cases hsq : colsOf m = m.length
    rotate_left
    · refine .neqT rfl rfl rfl (by omega) (.pick rfl rfl rfl (.mv rfl rfl (.gs rfl rfl rfl rfl rfl (.gs rfl rfl rfl rfl rfl (.gs rfl rfl rfl rfl rfl (.gs rfl rfl rfl rfl rfl (.gs rfl rfl rfl rfl rfl (.pick rfl rfl rfl (.mv rfl rfl (.gs rfl rfl rfl rfl rfl (.gs rfl rfl rfl rfl rfl (.gs rfl rfl rfl rfl rfl (.gs rfl rfl rfl rfl rfl (.gs rfl rfl rfl rfl rfl (.pick rfl rfl rfl (.mv rfl rfl (.gs rfl rfl rfl rfl rfl (.gs rfl rfl rfl rfl rfl (.gs rfl rfl rfl rfl rfl (.pick rfl rfl rfl (.nil (.condT rfl (.seq (.region ?_))))))))))))))))))))))))
      refine .call _ rfl E_law05_alive rfl law05_alive_c fun va wa ea ha => .asg rfl rfl (.nil (.ret ?_))
      exact .plain [_] Tryz.results6 ⟨rfl, trivial⟩ ⟨x6.trans ea, ha⟩
    refine .neqF rfl rfl rfl (by omega) (.pick rfl rfl rfl (.mv rfl rfl (.gr rfl rfl rfl rfl (.mv rfl rfl (.gr rfl rfl rfl rfl (.lenR un_M rfl rfl (hn.ext x6) (.gr rfl rfl rfl rfl (.mv rfl rfl (.gr rfl rfl rfl rfl (.lenR un_M rfl rfl (hm.ext x6) (.gr rfl rfl rfl rfl (?_))))))))))))
    by_cases hnl : n.length = m.length
    rotate_left
    · refine .neqT rfl rfl rfl (by omega) (.pick rfl rfl rfl (.mv rfl rfl (.gs rfl rfl rfl rfl rfl (.gs rfl rfl rfl rfl rfl (.gs rfl rfl rfl rfl rfl (.gs rfl rfl rfl rfl rfl (.gs rfl rfl rfl rfl rfl (.pick rfl rfl rfl (.mv rfl rfl (.gs rfl rfl rfl rfl rfl (.gs rfl rfl rfl rfl rfl (.gs rfl rfl rfl rfl rfl (.pick rfl rfl rfl (.nil (.condT rfl (.seq (.region ?_)))))))))))))))))
      refine .call _ rfl E_law05_alive rfl law05_alive_c fun va wa ea ha => .asg rfl rfl (.nil (.ret ?_))
      exact .plain [_] Tryz.results6 ⟨rfl, trivial⟩ ⟨x6.trans ea, ha⟩
    refine .neqF rfl rfl rfl (by omega) (.pick rfl rfl rfl (.mv rfl rfl (.gr rfl rfl rfl rfl (.mv rfl rfl (.gr rfl rfl rfl rfl (?_))))))
    refine .call _ rfl E_mat_Cols rfl (mat_Cols_c (hn.ext x6)) fun v7 w7 e7 h7 => .gr rfl rfl rfl rfl ?_
    subst h7
    have x7 := x6.trans e7
    refine .mv rfl rfl (.gr rfl rfl rfl rfl (.lenR un_M rfl rfl (hm.ext x7) (.gr rfl rfl rfl rfl (?_))))
    by_cases hnc : colsOf n = m.length
    rotate_left
    · refine .neqT rfl rfl rfl (by omega) (.pick rfl rfl rfl (.mv rfl rfl (.gs rfl rfl rfl rfl rfl (.gs rfl rfl rfl rfl rfl (.gs rfl rfl rfl rfl rfl (.pick rfl rfl rfl (.nil (.condT rfl (.seq (.region ?_))))))))))
      refine .call _ rfl E_law05_alive rfl law05_alive_c fun va wa ea ha => .asg rfl rfl (.nil (.ret ?_))
      exact .plain [_] Tryz.results6 ⟨rfl, trivial⟩ ⟨x7.trans ea, ha⟩
    refine .neqF rfl rfl rfl (by omega) (.pick rfl rfl rfl (.mv rfl rfl (.gr rfl rfl rfl rfl (.mv rfl rfl (.gr rfl rfl rfl rfl (.lenR un_M rfl rfl (hm.ext x7) (.gr rfl rfl rfl rfl (?_))))))))
    by_cases h2 : m.length < 2
    · refine .lssT rfl rfl rfl (by omega) (.pick rfl rfl rfl (.nil (.condT rfl (.seq (.region ?_)))))
      refine .call _ rfl E_law05_alive rfl law05_alive_c fun va wa ea ha => .asg rfl rfl (.nil (.ret ?_))
      exact .plain [_] Tryz.results6 ⟨rfl, trivial⟩ ⟨x7.trans ea, ha⟩
    refine .lssF rfl rfl rfl (by omega) (.pick rfl rfl rfl (.nil (.condF rfl (.skip ?_))))
    exact ⟨rfl, (), look_cons rfl (look_cons rfl (look_cons rfl (look_cons rfl (look_cons rfl look_nil)))), (y5.trans e6).trans e7, okm, okn, okk, hsq, hnl, hnc, by omega⟩
  rintro _ w2 ⟨e2, okm, okn, okk, hsq, hnl, hnc, h2⟩
  have x2 := e1.trans e2
  have mr := okm.mr (hm.ext x2)
  have nr := okn.mr (hn.ext x2)
  have hk := hk.ext x2
  have k9 := k9.ext e2
  have m1 := okm.rows
  have kk : qk 6 k := ⟨okk, rsz_qval (eQ_digs hk).1 (eQ_digs hk).2 okk (by decide)⟩
  clear hm hn hs ht
  refine .seq (.region (.mv rfl rfl ?_))
  refine .call _ rfl E_solve_Det rfl (solve_Det_c (L := 2) (n := 6) upT mr.r mr.hk (by decide) m1 (by omega) (by decide) (by decide)) fun vcA wcA ecA hh => ?_
  -- Det: detM m
  obtain ⟨vdA, veA, rfl, hA, heA⟩ := hh
  replace heA : veA = .int .i64 0 := by rw [heA, if_pos hsq]
  subst heA
  rw [if_pos hsq] at hA
  refine .mv rfl rfl (.ext rfl rfl rfl (.ext rfl rfl rfl (.alloc rfl zero_Q fun waA bA naA => ?_)))
  obtain ⟨eaA, kA, hbA, hsaA⟩ := naA
  refine .storeA (E := eQ) ty_Q rfl rfl kA rfl rfl (S := fun k => True ∧ k < wcA.heap.size) ((ER.lt eQ hA).ext eaA) (fun h => by have := h.2; omega) fun wA kA usA hA => .asg rfl rfl (.nil ?_)
  have xxA : Ext wcA wA := usA.below eaA (by omega)
  have hvA := shpA rfl hA
  have hA : eQ.R (fun _ => True) wA vdA (qc (detM m)) := eQ.mono (fun _ _ _ => trivial) hA
  have xA := ecA.trans xxA
  have sqn : colsOf n = n.length := by rw [hnc, hnl]
  refine .seq (.region (.mv rfl rfl ?_))
  refine .call _ rfl E_solve_Det rfl (solve_Det_c (L := 2) (n := 6) upT (nr.ext xA).r nr.hk (by decide) (by omega) (by omega) (by decide) (by decide)) fun vcB wcB ecB hh => ?_
  -- Det: detM n
  obtain ⟨vdB, veB, rfl, hB, heB⟩ := hh
  replace heB : veB = .int .i64 0 := by rw [heB, if_pos sqn]
  subst heB
  rw [if_pos sqn] at hB
  refine .mv rfl rfl (.ext rfl rfl rfl (.ext rfl rfl rfl (.alloc rfl zero_Q fun waB bB naB => ?_)))
  obtain ⟨eaB, kB, hbB, hsaB⟩ := naB
  refine .storeA (E := eQ) ty_Q rfl rfl kB rfl rfl (S := fun k => True ∧ k < wcB.heap.size) ((ER.lt eQ hB).ext eaB) (fun h => by have := h.2; omega) fun wB kB usB hB => .asg rfl rfl (.nil ?_)
  have xxB : Ext wcB wB := usB.below eaB (by omega)
  have hvB := shpA rfl hB
  have hB : eQ.R (fun _ => True) wB vdB (qc (detM n)) := eQ.mono (fun _ _ _ => trivial) hB
  have yB := ecB.trans xxB
  have xB := xA.trans yB
  refine .seq (.region (.mv rfl rfl (.mv rfl rfl ?_)))
  refine .call _ rfl E_mat_Mul rfl (mulW 31 (mr.ext xB) (nr.ext xB)) fun vpr wpr epr pr => .mv rfl rfl (.lenR un_M rfl rfl ((mr.ext xB).ext epr).r (.mv rfl rfl (.lenR un_M rfl rfl ((mr.ext xB).ext epr).r ?_)))
  have hcut : cutN (m.length : Int) = m.length := cut_nat (by omega)
  refine .call _ rfl E_mat_Resize rfl (mat_Resize_c (S := fun _ => True) upT pr.r pr.hk (by decide) (by decide)) fun vq wq eq qr => ?_
  rw [hcut] at qr
  have hPl : (tabM m.length m.length (rm (mulM m n))).length = m.length := tabM_length ..
  have sqP : colsOf (tabM m.length m.length (rm (mulM m n))) = (tabM m.length m.length (rm (mulM m n))).length := by rw [hPl, cols_tabM, if_neg (by omega)]
  have hPk : mk_ 31 (tabM m.length m.length (rm (mulM m n))) := mk_tabM fun i k _ _ => pr.hk.rsz (by decide) i k
  refine .call _ rfl E_solve_Det rfl (solve_Det_c (L := 31) (n := 6) upT qr hPk (by decide) (by omega) (by omega) (by decide) (by decide)) fun vcP wcP ecP hh => ?_
  -- Det: detM (tabM m.length m.length (rm (mulM m n)))
  obtain ⟨vdP, veP, rfl, hP, heP⟩ := hh
  replace heP : veP = .int .i64 0 := by rw [heP, if_pos sqP]
  subst heP
  rw [if_pos sqP] at hP
  refine .mv rfl rfl (.ext rfl rfl rfl (.ext rfl rfl rfl (.alloc rfl zero_Q fun waP bP naP => ?_)))
  obtain ⟨eaP, kP, hbP, hsaP⟩ := naP
  refine .storeA (E := eQ) ty_Q rfl rfl kP rfl rfl (S := fun k => True ∧ k < wcP.heap.size) ((ER.lt eQ hP).ext eaP) (fun h => by have := h.2; omega) fun wP kP usP hP => .asg rfl rfl (.nil ?_)
  have xxP : Ext wcP wP := usP.below eaP (by omega)
  have hvP := shpA rfl hP
  have hP : eQ.R (fun _ => True) wP vdP (qc (detM (tabM m.length m.length (rm (mulM m n))))) := eQ.mono (fun _ _ _ => trivial) hP
  have yP := ((epr.trans eq).trans ecP).trans xxP
  have xP := xB.trans yP
  rw [detM_mul hnl hnc] at hP
  refine .seq (.region (.mv rfl rfl ?_))
  refine .call _ rfl E_mat_Transpose rfl (trW (mr.ext xP)) fun vtr wtr etr tr => ?_
  obtain ⟨hTl, hTc⟩ := tr_sq hsq h2
  have sqT : colsOf (trM m) = (trM m).length := by rw [hTl, hTc]
  refine .call _ rfl E_solve_Det rfl (solve_Det_c (L := 2) (n := 6) upT tr.r tr.hk (by decide) (by omega) (by omega) (by decide) (by decide)) fun vcT wcT ecT hh => ?_
  -- Det: detM (trM m)
  obtain ⟨vdT, veT, rfl, hT, heT⟩ := hh
  replace heT : veT = .int .i64 0 := by rw [heT, if_pos sqT]
  subst heT
  rw [if_pos sqT] at hT
  refine .mv rfl rfl (.ext rfl rfl rfl (.ext rfl rfl rfl (.alloc rfl zero_Q fun waT bT naT => ?_)))
  obtain ⟨eaT, kT, hbT, hsaT⟩ := naT
  refine .storeA (E := eQ) ty_Q rfl rfl kT rfl rfl (S := fun k => True ∧ k < wcT.heap.size) ((ER.lt eQ hT).ext eaT) (fun h => by have := h.2; omega) fun wT kT usT hT => .asg rfl rfl (.nil ?_)
  have xxT : Ext wcT wT := usT.below eaT (by omega)
  have hvT := shpA rfl hT
  have hT : eQ.R (fun _ => True) wT vdT (qc (detM (trM m))) := eQ.mono (fun _ _ _ => trivial) hT
  have yT := (etr.trans ecT).trans xxT
  rw [detM_tr hsq] at hT
  have hA := ((hA.ext yB).ext yP).ext yT
  have kA := ((kA.ext yB).ext yP).ext yT
  have hB := (hB.ext yP).ext yT
  have kB := (kB.ext yP).ext yT
  have hP := hP.ext yT
  have kP := kP.ext yT
  have xT := xP.trans yT
  have mr := mr.ext xT
  have hk := hk.ext xT
  have k9 := k9.ext xT
  have xT := x2.trans xT
  have nk := nr.hk
  clear nr
  have rA : Rsz (detM m) 57343 := (det_rsz mr.hk (by decide) (M := 9557) (Nat.le_trans (bd_mono 2 m1) (by decide))).mono (by omega)
  have rB : Rsz (detM n) 57343 := (det_rsz nk (by decide) (M := 9557) (Nat.le_trans (bd_mono 2 okn.rows) (by decide))).mono (by have := okn.rows; omega)
  have rAB : Rsz (detM m * detM n) 120000 := (rA.mul rB).mono (by decide)
  -- the first tests
  refine .seq (.seq ?_)
  refine .par follows 25 [.inl (.int .i64 0), .inl (.bool false), .inl (.bool false), .inl (.int .i64 0), .inl (.bool false), .inl (.bool false), .inl (.bool false), .inl (.int .i64 0), .inl (.bool false), .inl (.bool false), .inl (.bool false), .inl (.int .i64 0), .inl (.bool false), .inl (.bool false), .inl (.bool false), .inl vdP, .inl vdA, .inl vdB, .inr (eQ.at (fun _ => True) (qc (detM m * detM n))), .inl (.bool true), .inl (.bool false), .inl (.bool false), .inl (.bool false), .inl vdT, .inl vdA] [[], [(93, 0)], [(94, 1)], [(95, 2)], [(96, 3), (95, 2)], [(95, 2), (97, 4)], [(98, 5)], [(99, 6)], [(100, 7), (99, 6)], [(99, 6), (101, 8)], [(102, 9)], [(103, 10)], [(104, 11), (103, 10)], [(103, 10), (105, 12)], [(106, 13)], [(107, 14)], [(107, 14)], [(107, 14)], [(109, 16), (110, 17), (107, 14)], [(108, 15), (111, 18), (107, 14)], [(112, 19), (107, 14)], [(107, 14), (113, 20)], [(114, 21)], [(115, 22)], [(115, 22)]] (by kernel_rfl) ⟨
    fun w e => (v_mv rfl).ob,
    fun w e => ((v_neq (k := .i64) (m := 0) (n := 0) rfl rfl).eq rfl).ob,
    fun w e => (v_mv rfl).ob,
    fun w e => (v_mv rfl).ob,
    fun w e => ((v_neq (k := .i64) (m := 0) (n := 0) rfl rfl).eq rfl).ob,
    fun w e => (v_pickF rfl rfl).ob,
    fun w e => (v_mv rfl).ob,
    fun w e => (v_mv rfl).ob,
    fun w e => ((v_neq (k := .i64) (m := 0) (n := 0) rfl rfl).eq rfl).ob,
    fun w e => (v_pickF rfl rfl).ob,
    fun w e => (v_mv rfl).ob,
    fun w e => (v_mv rfl).ob,
    fun w e => ((v_neq (k := .i64) (m := 0) (n := 0) rfl rfl).eq rfl).ob,
    fun w e => (v_pickF rfl rfl).ob,
    fun w e => (v_mv rfl).ob,
    fun w e => ((v_ldA ty_Q rfl (kP.ext e) (eQ.csz hP)).eq hvP.symm).ob,
    fun w e => ((v_ldA ty_Q rfl (kA.ext e) (eQ.csz hA)).eq hvA.symm).ob,
    fun w e => ((v_ldA ty_Q rfl (kB.ext e) (eQ.csz hB)).eq hvB.symm).ob,
    fun w e => by
      have := frac_Mul_c (L := 57343) upT (hA.ext e) (hB.ext e) rA.toOk rB.toOk (by decide) (by decide)
      rw [qval_qc, qval_qc] at this
      exact (g_call _ E_frac_Mul rfl this).ob (st_at _ _ _),
    fun w e x hx => g_call _ E_frac_Equal rfl (eqQW (L := 120000) (hP.ext e) hx rAB.toOk rAB.toOk (he := rfl)),
    fun w e => (v_not (b := true) rfl).ob,
    fun w e => (v_pickF rfl rfl).ob,
    fun w e => (v_mv rfl).ob,
    fun w e => ((v_ldA ty_Q rfl (kT.ext e) (eQ.csz hT)).eq hvT.symm).ob,
    fun w e => ((v_ldA ty_Q rfl (kA.ext e) (eQ.csz hA)).eq hvA.symm).ob, trivial⟩ ?_
  intro w3 e3 x18 _
  refine .gr rfl rfl rfl rfl ?_
  refine .call _ rfl E_frac_Equal rfl (eqQW (L := 57343) (hT.ext e3) (hA.ext e3) rA.toOk rA.toOk (he := rfl)) fun v4 w4 e4 h4 => ?_
  subst h4
  refine .gr rfl rfl rfl rfl (.not_ rfl rfl (.pick rfl rfl rfl (.nil (.condF rfl (.skip ?_)))))
  have y4 := e3.trans e4
  -- the rows to change
  obtain ⟨i, rfl⟩ := Int.eq_ofNat_of_zero_le hi0
  obtain ⟨j, rfl⟩ := Int.eq_ofNat_of_zero_le hj0
  have hmod : ∀ a : Nat, Int.tmod (a : Int) (m.length : Int) = ((a % m.length : Nat) : Int) := fun a => by rw [Int.ofNat_tmod]
  have hxl : i % m.length < m.length := Nat.mod_lt _ (by omega)
  have hyl : j % m.length < m.length := Nat.mod_lt _ (by omega)
  refine .seq ?_
  refine .par follows 11 [.inl _, .inl (.int .i64 (i : Nat)), .inl _, .inl (.int .i64 (m.length : Nat)), .inl (.int .i64 (i % m.length : Nat)), .inl _, .inl (.int .i64 (j : Nat)), .inl _, .inl (.int .i64 (m.length : Nat)), .inl (.int .i64 (j % m.length : Nat)), .inl _] [[], [(121, 0)], [], [(123, 2)], [(122, 1), (124, 3)], [], [(126, 5)], [], [(128, 7)], [(127, 6), (129, 8)], [(125, 4)]] (by kernel_rfl) ⟨
    fun w e => (v_mv rfl).ob,
    fun w e => ((v_cvt un_u8 un_int rfl).eq (by rw [wI (by omega)])).ob,
    fun w e => (v_mv rfl).ob,
    fun w e => (v_lenR un_M rfl ((mr.ext y4).ext e).r).ob,
    fun w e => ((v_rem rfl rfl (by omega)).eq (by rw [hmod])).ob,
    fun w e => (v_mv rfl).ob,
    fun w e => ((v_cvt un_u8 un_int rfl).eq (by rw [wI (by omega)])).ob,
    fun w e => (v_mv rfl).ob,
    fun w e => (v_lenR un_M rfl ((mr.ext y4).ext e).r).ob,
    fun w e => ((v_rem rfl rfl (by omega)).eq (by rw [hmod])).ob,
    fun w e => (v_as rfl).ob, trivial⟩ ?_
  intro w5 e5
  generalize i % m.length = x at *
  generalize j % m.length = y at *
  have y5 := y4.trans e5
  refine .asg rfl rfl (.nil (.seq (.seq (.region (.mv rfl rfl (.mv rfl rfl ?_))))))
  by_cases hxy : x = y
  · refine .eqlT rfl rfl rfl (by rw [hxy]) (.nil (.condT rfl (.seq (.region ?_))))
    refine .call _ rfl E_law05_alive rfl law05_alive_c fun va wa ea ha => .asg rfl rfl (.nil (.ret ?_))
    exact .plain [_] Tryz.results6 ⟨rfl, trivial⟩ ⟨(xT.trans y5).trans ea, ha⟩
  refine .eqlF rfl rfl rfl (by omega) (.nil (.condF rfl (.skip ?_)))
  -- two copies
  have mr5 := mr.ext y5
  have hcut2 := hcut
  refine .seq (.region (.mv rfl rfl (.mv rfl rfl (.lenR un_M rfl rfl mr5.r (.mv rfl rfl (.lenR un_M rfl rfl mr5.r ?_))))))
  refine .call _ rfl E_mat_Resize rfl (mat_ResizeF_c (S := fun _ => True) upT mr5.r mr.hk (by decide) (by decide)) fun vs w6 e6 h6 => ?_
  rw [hcut] at h6
  obtain ⟨gs, rfl, hgs, fs⟩ := h6
  have hgsl := fs.lt
  have mr6 := mr5.ext e6
  refine .mv rfl rfl (.mv rfl rfl (.lenR un_M rfl rfl mr6.r (.mv rfl rfl (.lenR un_M rfl rfl mr6.r ?_))))
  have hm6 : eM.R (fun k => k ≠ gs) w6 vm m := eM.mono (fun k _ h => by have := h.2; omega) (ER.ext eM (ER.lt eM mr5.r) e6)
  refine .call _ rfl E_mat_Resize rfl (mat_ResizeF_c (S := fun k => k ≠ gs) (fun k hk => by omega) hm6 mr.hk (by decide) (by decide)) fun vr w7 e7 h7 => .asg rfl rfl (.asg rfl rfl (.nil ?_))
  rw [hcut] at h7
  obtain ⟨gr, rfl, hgr, fr⟩ := h7
  have hgrl := fr.lt
  have fs : FB eV 23 (fun k => k < w6.heap.size) w7 gs (tabM m.length m.length (rm m)) := (fs.mono (S' := fun k => k < w6.heap.size) fun k hk _ => hk).ext e7
  have mr7 := mr6.ext e7
  refine .seq (.seq (.region (.mv rfl rfl (.len un_M rfl rfl (.mv rfl rfl (.lenR un_M rfl rfl mr7.r (.neqF rfl rfl rfl rfl (.mv rfl rfl (.gr rfl rfl rfl rfl (.mv rfl rfl (.gr rfl rfl rfl rfl (.len un_M rfl rfl (.gr rfl rfl rfl rfl (.mv rfl rfl (.gr rfl rfl rfl rfl (.lenR un_M rfl rfl mr7.r (.gr rfl rfl rfl rfl (.neqF rfl rfl rfl rfl (.pick rfl rfl rfl (.nil (.condF rfl (.skip ?_))))))))))))))))))))))
  have y7 := (y5.trans e6).trans e7
  have e57 := e6.trans e7
  -- the exchange
  refine .mid (α := Unit) (fun _ => [(9, .pointer (some ⟨b9, 0, none⟩)), (11, .pointer (some ⟨bA, 0, none⟩)), (19, .int .i64 (x : Nat)), (20, .int .i64 (y : Nat)), (21, .slice (some ⟨gs, 0, none⟩) m.length m.length), (22, .slice (some ⟨gr, 0, none⟩) m.length m.length)])
    (fun _ W => Chg (fun k => k = gs) w7 W ∧ FB eV 23 (fun k => k < w6.heap.size) W gs (tabM m.length m.length (swp (rm m) x y))) ?_ ?_
  · refine .heldT follows true (fun _ => True) [some _, some (.int .i64 (x : Nat)), some _, some (.int .i64 (y : Nat)), some _, some (.int .i64 (y : Nat)), some (.pointer (some ⟨gs, 0 + y * 1, none⟩)), none, some _, some (.int .i64 (x : Nat)), some (.pointer (some ⟨gs, 0 + x * 1, none⟩)), none, some (.pointer (some ⟨gs, 0 + x * 1, none⟩)), none, some (.pointer (some ⟨gs, 0 + y * 1, none⟩)), none]
      (.two 7 (.one 11 (.one 13 (.one 15 .done))) 11 (.one 7 (.one 13 (.one 15 .done)))) (by kernel_rfl) (by kernel_rfl)
      ⟨fun _ _ => v_mv rfl, fun _ _ => v_mv rfl, fun _ _ => v_mv rfl, fun _ _ => v_mv rfl, fun _ _ => v_mv rfl, fun _ _ => v_mv rfl, fun _ _ => v_ixB (i := y) un_M ty_V rfl rfl hyl, fun _ _ => v_mv rfl, fun _ _ => v_mv rfl, fun _ _ => v_ixB (i := x) un_M ty_V rfl rfl hxl, fun _ _ => v_ixB (i := x) un_M ty_V rfl rfl hxl, fun _ _ => v_ixB (i := y) un_M ty_V rfl rfl hyl, trivial⟩ ?_
    intro W3 e3 _
    obtain ⟨x7, h7, p7⟩ := (fs.ext e3).at_ (by decide) (tabM_get hyl)
    obtain ⟨x11, h11, p11⟩ := (fs.ext e3).at_ (by decide) (tabM_get hxl)
    have q7 : PtrX W3 ⟨gs, 0 + y * 1, none⟩ x7 := by rw [Nat.zero_add]; exact p7
    have q11 : PtrX W3 ⟨gs, 0 + x * 1, none⟩ x11 := by rw [Nat.zero_add]; exact p11
    refine .gv2 (.gv rfl trivial rfl (v_ldX (E := eV) ty_V rfl q7 h7).gv ?_) (.gv rfl trivial rfl (v_ldX (E := eV) ty_V rfl q11 h11).gv ?_)
    all_goals
      rintro _ _ ⟨rfl, rfl⟩
      refine .gv rfl trivial rfl (by first | exact (v_ldX (E := eV) ty_V rfl q11 h11).gv | exact (v_ldX (E := eV) ty_V rfl q7 h7).gv) ?_
      rintro _ _ ⟨rfl, rfl⟩
      refine .gv rfl trivial rfl (g_storeF (E := eV) (i := x) (by decide) ty_V rfl rfl (fs.ext e3) rfl (by rw [tabM_length]; exact hxl) (Nat.zero_add _) h7) ?_
      rintro _ W4 ⟨f4, u4⟩
      refine .gv rfl trivial rfl (g_storeF (E := eV) (i := y) (by decide) ty_V rfl rfl f4 rfl (by rw [List.length_set, tabM_length]; exact hyl) (Nat.zero_add _) (ER.upd eV h11 u4 (fun h => h.2 rfl))) ?_
      rintro _ W5 ⟨f5, u5⟩
      refine .nil (.inl rfl) ?_
      rw [tabM_set hxl, tabM_set hyl] at f5
      have e5 : tabM m.length m.length (fun j k => if j = y then rm m x k else if j = x then rm m y k else rm m j k) = tabM m.length m.length (swp (rm m) x y) := tabM_congr' fun i k _ _ => by
        unfold swp
        by_cases e1 : i = y
        · subst e1; rw [if_pos rfl, if_neg (fun h => hxy h.symm), if_pos rfl]
        · by_cases e2 : i = x
          · rw [if_neg e1, if_pos e2, if_pos e2]
          · rw [if_neg e1, if_neg e2, if_neg e2, if_neg e1]
      rw [e5] at f5
      exact ⟨rfl, (), look_cons rfl (look_cons rfl (look_cons rfl (look_cons rfl (look_cons rfl (look_cons rfl look_nil))))), ((Chg.ext (X := fun k => k = gs) e3).trans (Chg.upd u4 rfl)).trans (Chg.upd u5 rfl), f5⟩
  rintro _ w8 ⟨c8, fs⟩
  have e8 : Ext w5 w8 := c8.below e57 e57.size (fun k hk => by rw [hk]; exact hgs)
  have fr := fr.chg c8 (fun h : gr = gs => by omega) (fun k hk => hk)
  have hs8 := c8.size
  have y8 := y5.trans e8
  -- the sum of rows
  refine .seq ?_
  have hk8 : ∀ {W : World}, Ext w8 W → eQ.R (fun k => k ≠ gs ∧ k ≠ gr) W (.agg #[.bool k.num.neg, s, .bool k.den.neg, t]) k := fun e => ER.ext eQ (ER.ext eQ (eQ.mono (S' := fun k => k ≠ gs ∧ k ≠ gr) (fun k _ h => by have := h.2; have := y5.size; have := e6.size; constructor <;> omega) (ER.lt eQ hk)) y8) e
  have hrow : ∀ a, vk 6 (tab m.length (rm m a)) := fun a => vk_tab fun c _ => (mr.hk.rsz (by decide) a c).mono (by decide)
  refine .par follows 12 [.inl _, .inl (.int .i64 (x : Nat)), .inl (.agg #[.bool k.num.neg, s, .bool k.den.neg, t]), .inl _, .inl (.int .i64 (y : Nat)), .inl (.pointer (some ⟨gr, 0 + y * 1, none⟩)), .inr (eV.at (fun k => k ≠ gs ∧ k ≠ gr) (tab m.length (rm m y))), .inl _, .inl (.int .i64 (x : Nat)), .inl (.pointer (some ⟨gr, 0 + x * 1, none⟩)), .inr (eV.at (fun k => k ≠ gs ∧ k ≠ gr) (tab m.length (rm m x))), .inr (eV.at (fun k => k ≠ gs ∧ k ≠ gr) (tab m.length (addRow (rm m) x y (qval k) x)))] [[], [], [], [], [], [(176, 3), (177, 4)], [(178, 5)], [], [], [(180, 7), (181, 8)], [(182, 9)], [(175, 2), (179, 6), (183, 10)]] (by kernel_rfl) ⟨
    fun w e => (v_mv rfl).ob,
    fun w e => (v_mv rfl).ob,
    fun w e => (v_ldA ty_Q rfl ((k9.ext y8).ext e) rfl).ob,
    fun w e => (v_mv rfl).ob,
    fun w e => (v_mv rfl).ob,
    fun w e => (v_ixB (i := y) un_M ty_V rfl rfl hyl).ob,
    fun w e => ob_ldF (E := eV) (i := y) (by decide) ty_V rfl (Nat.zero_add _) (fr.ext e) (tabM_get hyl),
    fun w e => (v_mv rfl).ob,
    fun w e => (v_mv rfl).ob,
    fun w e => (v_ixB (i := x) un_M ty_V rfl rfl hxl).ob,
    fun w e => ob_ldF (E := eV) (i := x) (by decide) ty_V rfl (Nat.zero_add _) (fr.ext e) (tabM_get hxl),
    fun w e u hu v hv => by
      have := vec_AddScaled_c (L := 6) (S := fun k => k ≠ gs ∧ k ≠ gr) (fun k hk => by have := e.size; constructor <;> omega) (hk8 e) hu hv (by rw [tab_length]; omega) (by rw [tab_length]; omega) kk (hrow y) (hrow x) (by decide) (by decide)
      have he : tab (max (tab m.length (rm m y)).length (tab m.length (rm m x)).length) (fun c => qval k * rv (tab m.length (rm m y)) c + rv (tab m.length (rm m x)) c) = tab m.length (addRow (rm m) x y (qval k) x) := by
        rw [tab_length, tab_length, Nat.max_self]
        exact tab_congr fun c hc => by
          rw [rv_tab, if_pos hc, rv_tab, if_pos hc]
          unfold addRow
          rw [if_pos rfl]; grind
      rw [he] at this
      exact (g_call _ E_vec_AddScaled rfl this).ob (st_at _ _ _), trivial⟩ ?_
  intro w9 e9 u6 _ u10 _ u11 hu11
  refine .ixB (i := x) un_M ty_V rfl rfl rfl hxl (.storeF (E := eV) (i := x) (by decide) ty_V rfl rfl (fr.ext e9) rfl (by rw [tabM_length]; exact hxl) (Nat.zero_add _) hu11 fun w10 fr u10 => .nil ?_)
  rw [tabM_set hxl] at fr
  have her : tabM m.length m.length (fun j c => if j = x then addRow (rm m) x y (qval k) x c else rm m j c) = tabM m.length m.length (addRow (rm m) x y (qval k)) := tabM_congr' fun i c _ _ => by
    unfold addRow
    by_cases e : i = x
    · rw [if_pos e, if_pos rfl, if_pos e]
    · rw [if_neg e, if_neg e]
  rw [her] at fr
  have fs := (fs.ext e9).upd u10 (show gs ≠ gr by omega) (fun h : gr < w6.heap.size => by omega)
  have e10 : Ext w5 w10 := u10.below (e8.trans e9) (by omega)
  have y10 := y5.trans e10
  have hcl : ∀ f : RM, colsOf (tabM m.length m.length f) = (tabM m.length m.length f).length := fun f => by rw [tabM_length, cols_tabM, if_neg (by omega)]
  have hss : eM.R (fun _ => True) w10 (.slice (some ⟨gs, 0, none⟩) m.length m.length) (tabM m.length m.length (swp (rm m) x y)) := by
    have := (fs.mono (S' := fun _ => True) fun _ _ _ => trivial).toR (c := m.length) (hsz := by decide) trivial (by rw [tabM_length]; exact Nat.le_refl _) (by rw [tabM_length]; omega)
    rwa [tabM_length] at this
  have hrr : eM.R (fun _ => True) w10 (.slice (some ⟨gr, 0, none⟩) m.length m.length) (tabM m.length m.length (addRow (rm m) x y (qval k))) := by
    have := (fr.mono (S' := fun _ => True) fun _ _ _ => trivial).toR (c := m.length) (hsz := by decide) trivial (by rw [tabM_length]; exact Nat.le_refl _) (by rw [tabM_length]; omega)
    rwa [tabM_length] at this
  have hsk : mk_ 2 (tabM m.length m.length (swp (rm m) x y)) := mk_tabM fun i c hi hc => swp_rsz (C := m.length) hxl hyl (fun i c _ _ => mr.hk.rsz (by decide) i c) i c hi hc
  have hrk : mk_ 11 (tabM m.length m.length (addRow (rm m) x y (qval k))) := mk_tabM fun i c hi hc => by
    unfold addRow
    split
    · exact ((mr.hk.rsz (by decide) x c).add (kk.2.mul (mr.hk.rsz (by decide) y c))).mono (by decide)
    · exact (mr.hk.rsz (by decide) i c).mono (by decide)
  refine .seq (.region (.mv rfl rfl ?_))
  refine .call _ rfl E_solve_Det rfl (solve_Det_c (L := 2) (n := 6) upT hss hsk (by decide) (by rw [tabM_length]; exact m1) (by rw [hcl, tabM_length]; omega) (by decide) (by decide)) fun vcU wcU ecU hh => ?_
  -- Det: detM (tabM m.length m.length (swp (rm m) x y))
  obtain ⟨vdU, veU, rfl, hU, heU⟩ := hh
  replace heU : veU = .int .i64 0 := by rw [heU, if_pos (hcl _)]
  subst heU
  rw [if_pos (hcl _)] at hU
  refine .mv rfl rfl (.ext rfl rfl rfl (.ext rfl rfl rfl (.alloc rfl zero_Q fun waU bU naU => ?_)))
  obtain ⟨eaU, kU, hbU, hsaU⟩ := naU
  refine .storeA (E := eQ) ty_Q rfl rfl kU rfl rfl (S := fun k => True ∧ k < wcU.heap.size) ((ER.lt eQ hU).ext eaU) (fun h => by have := h.2; omega) fun wU kU usU hU => .asg rfl rfl (.nil ?_)
  have xxU : Ext wcU wU := usU.below eaU (by omega)
  have hvU := shpA rfl hU
  have hU : eQ.R (fun _ => True) wU vdU (qc (detM (tabM m.length m.length (swp (rm m) x y)))) := eQ.mono (fun _ _ _ => trivial) hU
  have yU := ecU.trans xxU
  rw [det_tab, det_swap _ hxl hyl hxy, ← detM_eq] at hU
  refine .seq (.region (.mv rfl rfl ?_))
  refine .call _ rfl E_solve_Det rfl (solve_Det_c (L := 11) (n := 6) upT (hrr.ext yU) hrk (by decide) (by rw [tabM_length]; exact m1) (by rw [hcl, tabM_length]; omega) (by decide) (by decide)) fun vcV wcV ecV hh => ?_
  -- Det: detM (tabM m.length m.length (addRow (rm m) x y (qval k)))
  obtain ⟨vdV, veV, rfl, hV, heV⟩ := hh
  replace heV : veV = .int .i64 0 := by rw [heV, if_pos (hcl _)]
  subst heV
  rw [if_pos (hcl _)] at hV
  refine .mv rfl rfl (.ext rfl rfl rfl (.ext rfl rfl rfl (.alloc rfl zero_Q fun waV bV naV => ?_)))
  obtain ⟨eaV, kV, hbV, hsaV⟩ := naV
  refine .storeA (E := eQ) ty_Q rfl rfl kV rfl rfl (S := fun k => True ∧ k < wcV.heap.size) ((ER.lt eQ hV).ext eaV) (fun h => by have := h.2; omega) fun wV kV usV hV => .asg rfl rfl (.nil ?_)
  have xxV : Ext wcV wV := usV.below eaV (by omega)
  have hvV := shpA rfl hV
  have hV : eQ.R (fun _ => True) wV vdV (qc (detM (tabM m.length m.length (addRow (rm m) x y (qval k))))) := eQ.mono (fun _ _ _ => trivial) hV
  have yV := ecV.trans xxV
  rw [det_tab, det_addRow _ _ hxl hyl hxy, ← detM_eq] at hV
  have hU := hU.ext yV
  have kU := kU.ext yV
  have yy := (y10.trans yU).trans yV
  have hA := hA.ext yy
  have kA := kA.ext yy
  refine .seq ?_
  refine .par follows 15 [.inl (.int .i64 0), .inl (.bool true), .inl (.bool true), .inl (.int .i64 0), .inl (.bool true), .inl (.bool true), .inl (.bool true), .inl vdU, .inl vdA, .inr (eQ.at (fun _ => True) (qc (-detM m))), .inl (.bool true), .inl (.bool true), .inl (.bool true), .inl vdV, .inl vdA] [[], [(196, 0)], [(197, 1)], [(198, 2)], [(199, 3), (198, 2)], [(198, 2), (200, 4)], [(201, 5)], [(202, 6)], [(202, 6)], [(204, 8), (202, 6)], [(203, 7), (205, 9), (202, 6)], [(202, 6), (206, 10)], [(207, 11)], [(208, 12)], [(208, 12)]] (by kernel_rfl) ⟨
    fun w e => (v_mv rfl).ob,
    fun w e => ((v_eql (k := .i64) (m := 0) (n := 0) rfl rfl).eq rfl).ob,
    fun w e => (v_mv rfl).ob,
    fun w e => (v_mv rfl).ob,
    fun w e => ((v_eql (k := .i64) (m := 0) (n := 0) rfl rfl).eq rfl).ob,
    fun w e => (v_pickT rfl rfl).ob,
    fun w e => (v_mv rfl).ob,
    fun w e => ((v_ldA ty_Q rfl (kU.ext e) (eQ.csz hU)).eq hvU.symm).ob,
    fun w e => ((v_ldA ty_Q rfl (kA.ext e) (eQ.csz hA)).eq hvA.symm).ob,
    fun w e => by
      have := frac_Neg_c (L := 57343) upT (hA.ext e) (qk_qc rA) (by decide) (by decide)
      rw [qval_qc] at this
      exact (g_call _ E_frac_Neg rfl this).ob (st_at _ _ _),
    fun w e x hx => g_call _ E_frac_Equal rfl (eqQW (L := 57343) (hU.ext e) hx rA.neg.toOk rA.neg.toOk (he := rfl)),
    fun w e => (v_pickT rfl rfl).ob,
    fun w e => (v_mv rfl).ob,
    fun w e => ((v_ldA ty_Q rfl (kV.ext e) (eQ.csz hV)).eq hvV.symm).ob,
    fun w e => ((v_ldA ty_Q rfl (kA.ext e) (eQ.csz hA)).eq hvA.symm).ob, trivial⟩ ?_
  intro w11 e11 x9 _
  refine .gr rfl rfl rfl rfl ?_
  refine .call _ rfl E_frac_Equal rfl (eqQW (L := 57343) (hV.ext e11) (hA.ext e11) rA.toOk rA.toOk (he := rfl)) fun v12 w12 e12 h12 => ?_
  subst h12
  refine .pick rfl rfl rfl (.mv rfl rfl (.gr rfl rfl rfl rfl (?_)))
  refine .call _ rfl E_law05_alive rfl law05_alive_c fun v13 w13 e13 h13 => .pick rfl rfl rfl (.asg rfl rfl (.nil (.ret ?_)))
  subst h13
  exact .plain [_] Tryz.results6 ⟨rfl, trivial⟩ ⟨(((xT.trans yy).trans e11).trans e12).trans e13, rfl⟩
end Go.Proofs.YtccmemilofoamaaGreat

namespace Go.Kx
open Go Go.RowKit Go.ChangeShapes Go.WideShapes
section
variable {H : Type} {enc : TypeId × Value → H} {P : Program} {W : World}
theorem Opn.argS {α : Type} {E : ER α} {t : TypeId} {fs : Array Field} {Z : DataW H → α → Prop} {r : Reach} {b0 : Nat} {v : Value} {d : DataW H} {ps : List MemPlace} (hA : E.isA = true) (ht : P.underlying t = some (.struct fs)) (h : Opn enc P W E t Z)
    (hval : Value.okWide P W r b0 t v) (hd : DataW.Trod enc P W 0 (fun _ => true) true t v d ps) : ∃ a, E.R (fun _ => True) W v a ∧ Z d a := by
  obtain ⟨cs, rfl, _⟩ := okWide_struct ht hval
  obtain ⟨fuel, hf⟩ := hd
  obtain ⟨e', a, h1, h2, h3⟩ := h fuel _ _ hf
  have hs := shpA hA h2
  have hc : e'.cells = cs := Array.toList_inj.1 h1
  rw [hc] at hs
  subst hs
  exact ⟨a, h2, h3⟩
theorem Opn.argI {t : TypeId} {k : IntKind} {r : Reach} {b0 : Nat} {v : Value} {d : DataW H} {ps : List MemPlace} (ht : P.underlying t = some (.int k))
    (hval : Value.okWide P W r b0 t v) (hd : DataW.Trod enc P W 0 (fun _ => true) true t v d ps) : ∃ n, v = .int k n ∧ k.min ≤ n ∧ n ≤ k.max := by
  obtain ⟨n, rfl⟩ := okWide_int ht hval
  obtain ⟨fuel, hf⟩ := hd
  obtain ⟨m, hm, _, hw⟩ := DataW.trod_int ht hf
  simp [Value.cells] at hm
  subst hm
  exact ⟨_, rfl, wf_bd hw⟩
end
section
open Go.ChangeShapes
variable {H : Type} {enc : TypeId × Value → H} {P : Program} {w : World} {base : Nat} {spare : Nat → Bool} {held : Bool}
theorem trodAll_five {t t' t'' t3 t4 : TypeId} {args : Array Value} {ds : List (DataW H)} {ps : List MemPlace} (h : DataW.TrodAll enc P w base spare held [t, t', t'', t3, t4] args.toList ds ps) :
    ∃ v v' v'' v3 v4 d d' d'' d3 d4 p p' p'' p3 p4, args = #[v, v', v'', v3, v4] ∧ ds = [d, d', d'', d3, d4] ∧ ps = p ++ p' ++ p'' ++ p3 ++ p4 ∧ DataW.Trod enc P w base spare held t v d p ∧ DataW.Trod enc P w base spare held t' v' d' p' ∧ DataW.Trod enc P w base spare held t'' v'' d'' p'' ∧ DataW.Trod enc P w base spare held t3 v3 d3 p3 ∧ DataW.Trod enc P w base spare held t4 v4 d4 p4 := by
  obtain ⟨v, vs, d, ds1, p, q, hargs, rfl, rfl, hd, hrest⟩ := trodAll_cons h
  obtain ⟨v', vs', d', ds2, p', q', rfl, rfl, rfl, hd', hrest'⟩ := trodAll_cons hrest
  obtain ⟨v'', vs'', d'', ds3, p'', q'', rfl, rfl, rfl, hd'', hrest''⟩ := trodAll_cons hrest'
  obtain ⟨v3, vs3, d3, ds4, p3, q3, rfl, rfl, rfl, hd3, hrest3⟩ := trodAll_cons hrest''
  obtain ⟨v4, vs4, d4, ds5, p4, q4, rfl, rfl, rfl, hd4, hrest4⟩ := trodAll_cons hrest3
  obtain ⟨rfl, rfl, rfl⟩ := trodAll_nil hrest4
  exact ⟨v, v', v'', v3, v4, d, d', d'', d3, d4, p, p', p'', p3, p4, by cases args; simp_all, rfl, by simp, hd, hd', hd'', hd3, hd4⟩
theorem trodAll_mk5 {t t' t'' t3 t4 : TypeId} {v v' v'' v3 v4 : Value} {d d' d'' d3 d4 : DataW H} {p p' p'' p3 p4 : List MemPlace} (h : DataW.Trod enc P w base spare held t v d p) (h' : DataW.Trod enc P w base spare held t' v' d' p')
    (h'' : DataW.Trod enc P w base spare held t'' v'' d'' p'') (h3 : DataW.Trod enc P w base spare held t3 v3 d3 p3) (h4 : DataW.Trod enc P w base spare held t4 v4 d4 p4) : DataW.TrodAll enc P w base spare held [t, t', t'', t3, t4] [v, v', v'', v3, v4] [d, d', d'', d3, d4] (p ++ (p' ++ (p'' ++ (p3 ++ p4)))) := ⟨p, p' ++ (p'' ++ (p3 ++ p4)), h, trodAll_mk4 h' h'' h3 h4, rfl⟩
end
end Go.Kx
