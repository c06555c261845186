/-
  Numbers by digits of sixteen bits: plain. The references: add, sub, times, cmp of magnitudes The references: times, sub, cmp, small, back, mul The references: back, mul The references: div The references: Sign, Neg, Abs, Add, Mul, Cmp of integers The references: Gcd, Div, Cmp of integers
-/
import Derived.Test.YtgghedhmjhaieaaGreatG2
import Derived.Test.YtgghedhmjhaieaaGreatG8
set_option linter.unusedVariables false
namespace Go.Kx
def hds (n : Nat) : List Nat := if h : n = 0 then [] else n % 65536 :: hds (n / 65536)
  decreasing_by omega
theorem hds_zero : hds 0 = [] := by unfold hds; simp
theorem hds_pos {n : Nat} (h : n ≠ 0) : hds n = n % 65536 :: hds (n / 65536) := by rw [hds]; simp [h]
theorem valH_hds (n : Nat) : valH (hds n) = n := by
  induction n using Nat.strongRecOn with
  | ind n ih =>
    by_cases h : n = 0
    · subst h; rw [hds_zero]; rfl
    · rw [hds_pos h, valH, ih _ (by omega)]; omega
theorem digH_hds (n : Nat) : digH (hds n) := by
  induction n using Nat.strongRecOn with
  | ind n ih =>
    by_cases h : n = 0
    · subst h; rw [hds_zero]; intro x hx; cases hx
    · rw [hds_pos h]
      intro x hx
      rcases List.mem_cons.1 hx with rfl | hx
      · omega
      · exact ih _ (by omega) x hx
theorem valH_pos_of_can : ∀ {l : List Nat}, can l → l ≠ [] → valH l ≠ 0
  | [], _, h => absurd rfl h
  | [x], hc, _ => by
    have := hc x (by simp)
    simp only [valH]; omega
  | x :: y :: r, hc, _ => by
    have ih := valH_pos_of_can (l := y :: r) (fun u hu => hc u (by simpa [List.getLast?_cons_cons] using hu)) (by simp)
    rw [valH]; omega
theorem hds_of_can : ∀ {l : List Nat}, digH l → can l → hds (valH l) = l
  | [], _, _ => hds_zero
  | x :: r, hd, hc => by
    have hx := hd x (by simp)
    have hr : can r := by
      intro u hu
      apply hc u
      cases r with
      | nil => simp at hu
      | cons y r => simpa [List.getLast?_cons_cons] using hu
    have ih := hds_of_can (l := r) (fun z hz => hd z (by simp [hz])) hr
    have h0 : valH (x :: r) ≠ 0 := valH_pos_of_can hc (by simp)
    rw [hds_pos h0, valH]
    rw [show (x + 65536 * valH r) % 65536 = x by omega, show (x + 65536 * valH r) / 65536 = valH r by omega, ih]
theorem trimH {l : List Nat} (h : digH l) : trimL l = hds (valH l) := by
  rw [← valH_trimL, hds_of_can (digH_trimL h) (can_trimL l)]
theorem valH_lt {l : List Nat} (h : digH l) : valH l < 65536 ^ l.length := by
  induction l with
  | nil => simp [valH]
  | cons x l ih =>
    have hx := h x (by simp)
    have := ih fun z hz => h z (by simp [hz])
    rw [valH, List.length_cons, Nat.pow_succ]; omega
theorem hds_length {n L : Nat} (h : n < 65536 ^ L) : (hds n).length ≤ L := by
  induction L generalizing n with
  | zero => rw [show n = 0 by simpa using h, hds_zero]; simp
  | succ L ih =>
    by_cases h0 : n = 0
    · rw [h0, hds_zero]; simp
    · rw [hds_pos h0, List.length_cons]
      have := ih (n := n / 65536) (by rw [Nat.pow_succ] at h; exact (Nat.div_lt_iff_lt_mul (by omega)).2 h)
      omega
theorem hds_lt (n : Nat) : n < 65536 ^ (hds n).length := by
  have := valH_lt (digH_hds n)
  rwa [valH_hds] at this
theorem hds_eq_nil {n : Nat} : hds n = [] ↔ n = 0 := by
  constructor
  · intro h
    by_cases h0 : n = 0
    · exact h0
    · rw [hds_pos h0] at h; cases h
  · rintro rfl; exact hds_zero
theorem hds_can (n : Nat) : can (hds n) := by
  have := trimH (digH_hds n)
  rw [valH_hds] at this
  rw [← this]; exact can_trimL _
theorem valH_snoc (l : List Nat) (x : Nat) : valH (l ++ [x]) = valH l + 65536 ^ l.length * x := by rw [valH_append]; simp [valH]
theorem valH_take_succ (l : List Nat) (k : Nat) : valH (l.take (k + 1)) = valH (l.take k) + 65536 ^ k * l.getD k 0 := by
  rcases Nat.lt_or_ge k l.length with h | h
  · rw [List.take_succ_eq_append_getElem h, valH_snoc, List.length_take, Nat.min_eq_left (by omega)]
    simp [List.getD_eq_getElem?_getD, List.getElem?_eq_getElem h]
  · rw [List.take_of_length_le (by omega), List.take_of_length_le h]
    simp [List.getD_eq_getElem?_getD, List.getElem?_eq_none h]
theorem valH_drop {l : List Nat} {k : Nat} (h : k < l.length) : valH (l.drop k) = l.getD k 0 + 65536 * valH (l.drop (k + 1)) := by
  rw [List.drop_eq_getElem_cons h, valH]
  simp [List.getD_eq_getElem?_getD, List.getElem?_eq_getElem h]
theorem digH_getD {l : List Nat} (h : digH l) (k : Nat) : l.getD k 0 < 65536 := by
  rw [List.getD_eq_getElem?_getD]
  cases hk : l[k]? with
  | none => simp
  | some x => exact h x (List.mem_iff_getElem?.2 ⟨k, hk⟩)
theorem digH_snoc {l : List Nat} {x : Nat} (h : digH l) (hx : x < 65536) : digH (l ++ [x]) := by
  intro y hy
  rcases List.mem_append.1 hy with h' | h'
  · exact h y h'
  · simp at h'; omega
theorem digH_append {l r : List Nat} (h : digH l) (h' : digH r) : digH (l ++ r) := by
  intro y hy
  rcases List.mem_append.1 hy with h1 | h1
  · exact h y h1
  · exact h' y h1
/-- beyond the end nothing is left -/
theorem valH_take_all {l : List Nat} {k : Nat} (h : l.length ≤ k) : valH (l.take k) = valH l := by rw [List.take_of_length_le h]
theorem hds_len_mono {m n : Nat} (h : m ≤ n) : (hds m).length ≤ (hds n).length := hds_length (Nat.lt_of_le_of_lt h (hds_lt n))
end Go.Kx

namespace Go.Kx
open Go Go.RowKit
theorem tmod16 (m : Nat) : ((m : Int).tmod 65536) = ((m % 65536 : Nat) : Int) := tmod_nat m 65536
theorem tdiv16 (m : Nat) : ((m : Int).tdiv 65536) = ((m / 65536 : Nat) : Int) := tdiv_nat m 65536
/-- digits of the call's own -/
def OwnH (t : TypeId) (base : Nat) (w : World) (v : Value) (r : List Nat) : Prop := w.ownsRow base t 1 v r.length (r.map hvv) ∧ digH r
section
variable {t : TypeId} {base : Nat} {w w' : World} {v : Value} {r : List Nat}
theorem OwnH.ext (h : OwnH t base w v r) (e : Ext w w') : OwnH t base w' v r := ⟨own_keep h.1 fun k cs _ hb => hb.ext e, h.2⟩
theorem OwnH.below {w0 : World} (h : OwnH t base w v r) (hg : w.grownBy w' v.ownBlock) (hb : Below base w0 w) (hB : base ≤ w.heap.size) : Below base w0 w' := hb.grown hg hB fun k hk => (h.1.lt k hk).1
theorem OwnH.nil : OwnH t base w (.slice none 0 0) [] := ⟨⟨rfl, .inl ⟨rfl, rfl⟩⟩, fun x hx => by cases hx⟩
theorem OwnH.toR {S : Nat → Prop} (h : OwnH t base w v r) (hS : ∀ k, base ≤ k → S k) : eHs.R S w v r := by
  refine RL.ofOwn (E := eH) (es := r.map hvv) (base := base) (t := t) (n := r.length) ?_ rfl ⟨by simp, fun i e x he hx => ?_⟩ hS
  · rw [cellsOf_map1 hvv (fun _ => rfl)]; exact h.1
  · rw [List.getElem?_map, hx] at he
    simp at he
    exact ⟨he.symm, h.2 x (List.mem_iff_getElem?.2 ⟨i, hx⟩)⟩
theorem OwnH.lit {b : Nat} {l : List Nat} (hn : New w w' b t (l.map hvv).toArray) (hB : base ≤ w.heap.size) (hd : digH l) (hl : l.length ≤ 1000) : OwnH t base w' (.slice (some ⟨b, 0, none⟩) l.length l.length) l := by
  obtain ⟨_, hk, hb, _⟩ := hn
  exact ⟨⟨by simp, .inr ⟨b, l.length, _, rfl, by omega, hk, Nat.le_refl _, by simp [maxLen]; omega, by simp, by simp [List.take_of_length_le]⟩⟩, hd⟩
end
section
variable {P : Program} {σ : Env} {w : World} {d : Option Tmp} {ty : TypeId} {pos : String} {af : Array Edge} {g : Option (Nat × Bool)}
theorem g_appH {t e : TypeId} {x y : Operand} {base b : Nat} {v : Value} {r : List Nat} {n : Nat} (ht : P.underlying t = some (.slice e)) (hi : infoOf P e = some (.int .i64 0, 1, 8)) (hx : ev σ x = some v) (hy : ev σ y = some (.slice (some ⟨b, 0, none⟩) 1 1))
    (hown : OwnH e base w v r) (hb : Blk w b e #[hvv n]) (hn : n < 65536) (hl : r.length ≤ 1099511627776) (hbase : base ≤ w.heap.size) :
    Gv P ⟨d, .call { callee := .builtin .append, args := #[x, y], argTypes := #[t, t] }, ty, pos, af, g⟩ σ w fun v' w' => OwnH e base w' v' (r ++ [n]) ∧ w.grownBy w' v.ownBlock := by
  refine (g_app [hvv n] ht hi rfl (by decide) hx hy hown.1 rfl (fun j u hu => ?_) (fun u hu => ?_) (by omega) (by omega) hbase).mono ?_
  · cases j with
    | zero => simp at hu; subst hu; rw [add_mk, hb.cell]; rfl
    | succ j => simp at hu
  · simp at hu; subst hu; rfl
  · rintro v' w' ⟨h1, h2⟩
    exact ⟨⟨by simpa using h1, digH_snoc hown.2 hn⟩, h2⟩
/-- append(r, s...) -/
theorem g_appHs {S : Nat → Prop} {t e : TypeId} {x y : Operand} {base : Nat} {v u : Value} {r s : List Nat} (ht : P.underlying t = some (.slice e)) (hi : infoOf P e = some (.int .i64 0, 1, 8)) (hx : ev σ x = some v) (hy : ev σ y = some u)
    (hown : OwnH e base w v r) (hs : eHs.R S w u s) (hl : r.length ≤ 1000) (hl2 : s.length ≤ 1099511627776) (hbase : base ≤ w.heap.size) :
    Gv P ⟨d, .call { callee := .builtin .append, args := #[x, y], argTypes := #[t, t] }, ty, pos, af, g⟩ σ w fun v' w' => OwnH e base w' v' (r ++ s) ∧ Below base w w' := by
  have hds := eH_dig hs
  obtain ⟨es, he, a, c, rfl, hc, _, hcl, hcells⟩ := hs
  have hes : es = s.map hvv := by
    apply List.ext_getElem?
    intro i
    rw [List.getElem?_map]
    cases hi : s[i]? with
    | none => rw [List.getElem?_eq_none (by rw [he.1]; exact List.getElem?_eq_none_iff.1 hi)]; rfl
    | some z =>
      have hlt : i < s.length := (List.getElem?_eq_some_iff.1 hi).1
      have hee := List.getElem?_eq_getElem (show i < es.length by rw [he.1]; exact hlt)
      obtain ⟨h1, _⟩ := he.2 i _ z hee hi
      rw [hee, h1]; rfl
  subst hes
  rw [cellsOf_map1 hvv (fun _ => rfl)] at hcells hcl
  have hone : ∀ u ∈ s.map hvv, one1 u = true := by
    intro u hu
    obtain ⟨z, _, rfl⟩ := List.mem_map.1 hu
    rfl
  have fin : ∀ v' w', w'.ownsRow base e 1 v' (r.length + s.length) (r.map hvv ++ s.map hvv) → w.grownBy w' v.ownBlock → OwnH e base w' v' (r ++ s) ∧ Below base w w' := by
    intro v' w' h1 h2
    exact ⟨⟨by simpa using h1, digH_append hown.2 hds⟩, hown.below h2 (Below.refl _ _) hbase⟩
  cases a with
  | some ad =>
    have hcell : ∀ j u, (s.map hvv)[j]? = some u → w.cell? (ad.add j) = some u := by
      intro j u hu
      have hpos : 0 < s.length := by
        cases s with
        | nil => simp at hu
        | cons z s => simp
      obtain ⟨ad', h1, _, h2⟩ := hcells hpos
      cases h1
      exact h2 j u hu
    exact (g_app (s.map hvv) ht hi rfl (by decide) hx hy hown.1 (by simp) hcell hone (by omega) (by omega) hbase).mono fun v' w' ⟨h1, h2⟩ => fin v' w' h1 h2
  | none =>
    have h0 : s = [] := by
      cases s with
      | nil => rfl
      | cons z s => obtain ⟨ad, h1, _⟩ := hcells (by simp); cases h1
    subst h0
    refine (g_app0 ht hi hx hy hown.1).gv.mono fun v' w' ⟨h1, h2⟩ => ?_
    subst h1; subst h2
    exact ⟨by simpa using hown, Below.refl _ _⟩
end
end Go.Kx
namespace Go.Proofs.YtgghedhmjhaieaaGreat
open Go Go.Kx Go.RowKit
theorem bsl_H1 {x : Int} : bslOf Tryz.prog 101 1 [(0, .int .i64 x)] = some (3, #[.int .i64 x]) := by kernel_rfl
theorem bsl_H3 {x y z : Int} : bslOf Tryz.prog 101 3 [(0, .int .i64 x), (1, .int .i64 y), (2, .int .i64 z)] = some (3, #[.int .i64 x, .int .i64 y, .int .i64 z]) := by kernel_rfl

theorem E_ref01_add : Ent Tryz.prog 112 := ent_of Tryz.func112 (by kernel_rfl) rfl
theorem ref01_add_c {S : Nat → Prop} {w : World} {va vb : Value} {a b : List Nat} (up : Up S w) (ha : eHs.R S w va a) (hb : eHs.R S w vb b) (hla : a.length ≤ 100000000000) (hlb : b.length ≤ 100000000000) : CR Tryz.prog 112 #[va, vb] w (eHs.at S (hds (valH a + valH b))) := by
  have hda := eH_dig ha
  have hdb := eH_dig hb
  have hA : ∀ {W : World}, Below w.heap.size w W → eHs.R (fun k => S k ∧ k < w.heap.size) W va a := fun hB => eHs.keep (fun k c t f hk h => (hB.block k hk.2).trans h) (ER.lt eHs ha)
  have hBb : ∀ {W : World}, Below w.heap.size w W → eHs.R (fun k => S k ∧ k < w.heap.size) W vb b := fun hB => eHs.keep (fun k c t f hk h => (hB.block k hk.2).trans h) (ER.lt eHs hb)
  refine enter Tryz.func112 rfl Tryz.ntmps112 rfl ?_
  refine .seq (.region (.asg rfl rfl (.nil (.seq (.region (.asg rfl rfl (.nil (.seq (.region (.asg rfl rfl (.nil (.seq (.seq (.region (.asg rfl rfl (.nil ?_))))))))))))))))
  refine .block (.loop (α := Nat × Value × List Nat × Nat) (fun x => [(0, va), (1, vb), (5, x.2.1), (6, .int .i64 (x.2.2.2 : Nat)), (7, .int .i64 (x.1 : Nat))])
    (fun x W => Below w.heap.size w W ∧ x.1 ≤ max a.length b.length + 1 ∧ x.2.2.1.length = x.1 ∧ OwnH 3 w.heap.size W x.2.1 x.2.2.1 ∧ x.2.2.2 ≤ 1 ∧ (max a.length b.length < x.1 → x.2.2.2 = 0) ∧ valH x.2.2.1 + 65536 ^ x.1 * x.2.2.2 = valH (a.take x.1) + valH (b.take x.1))
    (fun x => 2 * (max a.length b.length - x.1) + x.2.2.2) (0, .slice none 0 0, [], 0) ?_ ?_ ?_)
  · exact look_cons rfl (look_cons rfl (look_cons rfl (look_cons rfl (look_cons rfl look_nil))))
  · exact ⟨Below.refl _ _, Nat.zero_le _, rfl, OwnH.nil, Nat.zero_le _, fun _ => rfl, by simp [valH]⟩
  · rintro ⟨i, u, r, c⟩ W ⟨hB, hi, hr, ho, hc, hc0, hv⟩
    replace hB : Below w.heap.size w W := hB
    replace hi : i ≤ max a.length b.length + 1 := hi
    replace hr : r.length = i := hr
    replace ho : OwnH 3 w.heap.size W u r := ho
    replace hc : c ≤ 1 := hc
    replace hc0 : max a.length b.length < i → c = 0 := hc0
    replace hv : valH r + 65536 ^ i * c = valH (a.take i) + valH (b.take i) := hv
    have hxa := digH_getD hda i
    have hxb := digH_getD hdb i
    -- the round
    have round : ∀ {σ : Env}, (i < max a.length b.length ∨ 0 < c) → Kx.look σ 0 = some va → Kx.look σ 1 = some vb → Kx.look σ 5 = some u → Kx.look σ 6 = some (.int .i64 (c : Nat)) → Kx.look σ 7 = some (.int .i64 (i : Nat)) → True := fun _ _ _ _ _ _ => trivial
    refine .mid (α := Unit) (fun _ => [(0, va), (1, vb), (5, u), (6, .int .i64 (c : Nat)), (7, .int .i64 (i : Nat))]) (fun _ W' => W' = W ∧ (i < max a.length b.length ∨ 0 < c)) ?_ ?_
    · have hend : ¬ (i < max a.length b.length ∨ 0 < c) → valH r = valH a + valH b := by
        intro hn
        have h0 : c = 0 := by omega
        rw [h0, Nat.mul_zero, Nat.add_zero, valH_take_all (by omega), valH_take_all (by omega)] at hv
        exact hv
      refine .seq (.region (.mv rfl rfl (.mv rfl rfl (.lenR un_H rfl rfl (hA hB) ?_))))
      by_cases h1 : i < a.length
      · refine .lssT rfl rfl rfl (by omega) (.mv rfl rfl (.gs rfl rfl rfl rfl rfl (.gs rfl rfl rfl rfl rfl (.gs rfl rfl rfl rfl rfl (.gs rfl rfl rfl rfl rfl (.pick rfl rfl rfl (.mv rfl rfl (.gs rfl rfl rfl rfl rfl (.gs rfl rfl rfl rfl rfl (.pick rfl rfl rfl (.nil (.condT rfl (.skip ?_)))))))))))))
        exact ⟨rfl, (), look_cons rfl (look_cons rfl (look_cons rfl (look_cons rfl (look_cons rfl look_nil)))), rfl, by omega⟩
      · refine .lssF rfl rfl rfl (by omega) (.mv rfl rfl (.gr rfl rfl rfl rfl (.mv rfl rfl (.gr rfl rfl rfl rfl (.mv rfl rfl (.gr rfl rfl rfl rfl (.lenR un_H rfl rfl (hBb hB) (.gr rfl rfl rfl rfl ?_))))))))
        by_cases h2 : i < b.length
        · refine .lssT rfl rfl rfl (by omega) (.pick rfl rfl rfl (.mv rfl rfl (.gs rfl rfl rfl rfl rfl (.gs rfl rfl rfl rfl rfl (.pick rfl rfl rfl (.nil (.condT rfl (.skip ?_))))))))
          exact ⟨rfl, (), look_cons rfl (look_cons rfl (look_cons rfl (look_cons rfl (look_cons rfl look_nil)))), rfl, by omega⟩
        · refine .lssF rfl rfl rfl (by omega) (.pick rfl rfl rfl (.mv rfl rfl (.gr rfl rfl rfl rfl (.mv rfl rfl (.gr rfl rfl rfl rfl ?_)))))
          by_cases h3 : 0 < c
          · refine .gtrT rfl rfl rfl (show (0 : Int) < ((c : Nat) : Int) by omega) (.pick rfl rfl rfl (.nil (.condT rfl (.skip ?_))))
            exact ⟨rfl, (), look_cons rfl (look_cons rfl (look_cons rfl (look_cons rfl (look_cons rfl look_nil)))), rfl, .inr h3⟩
          · refine .gtrF rfl rfl rfl (show ¬ (0 : Int) < ((c : Nat) : Int) by omega) (.pick rfl rfl rfl (.nil (.condF rfl (.exit (.seq (.region (.mv rfl rfl ?_)))))))
            refine .call _ rfl E_ref01_trim rfl (ref01_trim_c (ho.toR up)) fun v2 W2 e2 h2 => .asg rfl rfl (.nil (.ret ?_))
            refine .plain [_] Tryz.results112 ⟨rfl, trivial⟩ ⟨hB.trans (e2.mono hB.size), ?_⟩
            rw [← hend (by omega), ← trimH ho.2]; exact h2
    · rintro _ W' ⟨rfl, hgo⟩
      refine .seq (.block (.seq (.region (.mv rfl rfl (.mv rfl rfl ?_)))))
      refine .call _ rfl E_ref01_at rfl (ref01_at_c (hA hB)) fun v3 W3 e3 h3 => .mv rfl rfl (.mv rfl rfl ?_)
      subst h3
      have hB3 : Below w.heap.size w W3 := hB.trans (e3.mono hB.size)
      refine .call _ rfl E_ref01_at rfl (ref01_at_c (hBb hB3)) fun v4 W4 e4 h4 => ?_
      subst h4
      refine .add rfl rfl rfl (.mv rfl rfl (.add rfl rfl rfl (.asg rfl rfl (.nil ?_))))
      rw [wI (n := ((a.getD i 0 : Nat) : Int) + ((b.getD i 0 : Nat) : Int)) (by omega), wI (by omega), show ((a.getD i 0 : Nat) : Int) + ((b.getD i 0 : Nat) : Int) + (c : Int) = ((a.getD i 0 + b.getD i 0 + c : Nat) : Int) by omega]
      generalize hm : a.getD i 0 + b.getD i 0 + c = m at *
      refine .seq (.region (.mv rfl rfl (.mv rfl rfl (.rem rfl rfl rfl (by decide) ?_))))
      rw [tmod16]
      refine .bsl _ rfl rfl bsl_H1 fun W5 b5 n5 => ?_
      obtain ⟨e5, k5, hb5, hs5⟩ := n5
      have e35 := (e3.trans e4).trans e5
      have hB5 : Below w.heap.size w W5 := hB.trans (e35.mono hB.size)
      refine .gv rfl rfl (g_appH (base := w.heap.size) un_H info_int rfl rfl (ho.ext e35) k5 (by omega) (by omega) hB5.size) ?_
      rintro v6 W6 ⟨ho6, hg6⟩
      refine .asg rfl rfl (.nil (.region (.mv rfl rfl (.quo rfl rfl rfl (by decide) (.asg rfl rfl (.nil ?_))))))
      rw [tdiv16, wI (by omega)]
      refine .region (.mv rfl rfl (.add rfl rfl rfl (.asg rfl rfl (.nil ?_))))
      rw [wI (by omega)]
      have hget : max a.length b.length ≤ i → m / 65536 = 0 := by
        intro h
        have h1 : a.getD i 0 = 0 := getD_out (by omega)
        have h2 : b.getD i 0 = 0 := getD_out (by omega)
        omega
      refine ⟨rfl, (i + 1, v6, _, m / 65536), look_cons rfl (look_cons rfl (look_cons rfl (look_cons rfl (look_cons rfl look_nil)))), ⟨(ho.ext e35).below hg6 hB5 hB5.size, by show i + 1 ≤ _; omega, by show (r ++ [_]).length = _; simp [hr], ho6, by show m / 65536 ≤ 1; omega, fun h => hget (by have h' : max a.length b.length < i + 1 := h; omega), ?_⟩, ?_⟩
      · show valH (r ++ [m % 65536]) + 65536 ^ (i + 1) * (m / 65536) = valH (a.take (i + 1)) + valH (b.take (i + 1))
        rw [valH_snoc, valH_take_succ, valH_take_succ, hr]
        have hdm := Nat.div_add_mod m 65536
        generalize m / 65536 = q at *
        generalize m % 65536 = z at *
        have : 65536 ^ i * z + 65536 ^ (i + 1) * q = 65536 ^ i * (a.getD i 0 + b.getD i 0 + c) := by
          rw [hm, ← hdm, Nat.pow_succ]; grind
        rw [Nat.mul_add, Nat.mul_add] at this
        omega
      · show 2 * (max a.length b.length - (i + 1)) + m / 65536 < 2 * (max a.length b.length - i) + c
        rcases Nat.lt_or_ge i (max a.length b.length) with h | h
        · omega
        · have := hget h; omega
end Go.Proofs.YtgghedhmjhaieaaGreat

namespace Go.Kx
theorem valH_split (l : List Nat) (i : Nat) : valH l = valH (l.take i) + 65536 ^ i * valH (l.drop i) := by
  rcases Nat.lt_or_ge i l.length with h | h
  · have : valH l = valH (l.take i ++ l.drop i) := by rw [List.take_append_drop]
    rw [this, valH_append, List.length_take, Nat.min_eq_left (by omega)]
  · rw [List.take_of_length_le h, List.drop_eq_nil_of_le h]; simp [valH]
theorem valH_drop' (l : List Nat) (i : Nat) : valH (l.drop i) = l.getD i 0 + 65536 * valH (l.drop (i + 1)) := by
  rcases Nat.lt_or_ge i l.length with h | h
  · exact valH_drop h
  · rw [List.drop_eq_nil_of_le h, List.drop_eq_nil_of_le (by omega), List.getD_eq_getElem?_getD, List.getElem?_eq_none h]; rfl
theorem digH_take {l : List Nat} (h : digH l) (i : Nat) : digH (l.take i) := fun x hx => h x (List.mem_of_mem_take hx)
theorem valH_take_lt {l : List Nat} (h : digH l) (i : Nat) : valH (l.take i) < 65536 ^ i := by
  have h1 := valH_lt (digH_take h i)
  refine Nat.lt_of_lt_of_le h1 (Nat.pow_le_pow_right (by omega) ?_)
  simp; omega
end Go.Kx
namespace Go.Proofs.YtgghedhmjhaieaaGreat
open Go Go.Kx Go.RowKit

theorem E_ref01_times : Ent Tryz.prog 128 := ent_of Tryz.func128 (by kernel_rfl) rfl
theorem ref01_times_c {S : Nat → Prop} {w : World} {vb : Value} {b : List Nat} {n : Nat} (up : Up S w) (hb : eHs.R S w vb b) (hlb : b.length ≤ 100000000000) (hn : n ≤ 65536) : CR Tryz.prog 128 #[vb, .int .i64 n] w (eHs.at S (hds (valH b * n))) := by
  have hdb := eH_dig hb
  have hB0 : ∀ {W : World}, Below w.heap.size w W → eHs.R (fun k => S k ∧ k < w.heap.size) W vb b := fun hB => eHs.keep (fun k c t f hk h => (hB.block k hk.2).trans h) (ER.lt eHs hb)
  refine enter Tryz.func128 rfl Tryz.ntmps128 rfl ?_
  refine .seq (.region (.asg rfl rfl (.nil (.seq (.region (.asg rfl rfl (.nil (.seq (.region (.asg rfl rfl (.nil (.seq (.seq (.region (.asg rfl rfl (.nil ?_))))))))))))))))
  refine .block (.loop (α := Nat × Value × List Nat × Nat) (fun x => [(0, vb), (1, .int .i64 (n : Nat)), (5, x.2.1), (6, .int .i64 (x.2.2.2 : Nat)), (7, .int .i64 (x.1 : Nat))])
    (fun x W => Below w.heap.size w W ∧ x.1 ≤ b.length + 2 ∧ x.2.2.1.length = x.1 ∧ OwnH 3 w.heap.size W x.2.1 x.2.2.1 ∧ x.2.2.2 ≤ 65536 ∧ (b.length < x.1 → x.2.2.2 ≤ 1) ∧ (b.length + 1 < x.1 → x.2.2.2 = 0) ∧ valH x.2.2.1 + 65536 ^ x.1 * x.2.2.2 = valH (b.take x.1) * n)
    (fun x => 100000 * (b.length - x.1) + x.2.2.2) (0, .slice none 0 0, [], 0) ?_ ?_ ?_)
  · exact look_cons rfl (look_cons rfl (look_cons rfl (look_cons rfl (look_cons rfl look_nil))))
  · exact ⟨Below.refl _ _, Nat.zero_le _, rfl, OwnH.nil, Nat.zero_le _, fun _ => Nat.zero_le _, fun _ => rfl, by simp [valH]⟩
  · rintro ⟨i, u, r, c⟩ W ⟨hB, hi, hr, ho, hc, hc1, hc0, hv⟩
    replace hB : Below w.heap.size w W := hB
    replace hi : i ≤ b.length + 2 := hi
    replace hr : r.length = i := hr
    replace ho : OwnH 3 w.heap.size W u r := ho
    replace hc : c ≤ 65536 := hc
    replace hc1 : b.length < i → c ≤ 1 := hc1
    replace hc0 : b.length + 1 < i → c = 0 := hc0
    replace hv : valH r + 65536 ^ i * c = valH (b.take i) * n := hv
    have hxb := digH_getD hdb i
    refine .mid (α := Unit) (fun _ => [(0, vb), (1, .int .i64 (n : Nat)), (5, u), (6, .int .i64 (c : Nat)), (7, .int .i64 (i : Nat))]) (fun _ W' => W' = W ∧ (i < b.length ∨ 0 < c)) ?_ ?_
    · refine .seq (.region (.mv rfl rfl (.mv rfl rfl (.lenR un_H rfl rfl (hB0 hB) ?_))))
      by_cases h1 : i < b.length
      · refine .lssT rfl rfl rfl (by omega) (.mv rfl rfl (.gs rfl rfl rfl rfl rfl (.gs rfl rfl rfl rfl rfl (.pick rfl rfl rfl (.nil (.condT rfl (.skip ?_)))))))
        exact ⟨rfl, (), look_cons rfl (look_cons rfl (look_cons rfl (look_cons rfl (look_cons rfl look_nil)))), rfl, .inl h1⟩
      · refine .lssF rfl rfl rfl (by omega) (.mv rfl rfl (.gr rfl rfl rfl rfl (.mv rfl rfl (.gr rfl rfl rfl rfl ?_))))
        by_cases h3 : 0 < c
        · refine .gtrT rfl rfl rfl (show (0 : Int) < ((c : Nat) : Int) by omega) (.pick rfl rfl rfl (.nil (.condT rfl (.skip ?_))))
          exact ⟨rfl, (), look_cons rfl (look_cons rfl (look_cons rfl (look_cons rfl (look_cons rfl look_nil)))), rfl, .inr h3⟩
        · refine .gtrF rfl rfl rfl (show ¬ (0 : Int) < ((c : Nat) : Int) by omega) (.pick rfl rfl rfl (.nil (.condF rfl (.exit (.seq (.region (.mv rfl rfl ?_)))))))
          refine .call _ rfl E_ref01_trim rfl (ref01_trim_c (ho.toR up)) fun v2 W2 e2 h2 => .asg rfl rfl (.nil (.ret ?_))
          refine .plain [_] Tryz.results128 ⟨rfl, trivial⟩ ⟨hB.trans (e2.mono hB.size), ?_⟩
          have h0 : c = 0 := by omega
          rw [h0, Nat.mul_zero, Nat.add_zero, valH_take_all (by omega)] at hv
          rw [← hv, ← trimH ho.2]; exact h2
    · rintro _ W' ⟨rfl, hgo⟩
      refine .seq (.block (.seq (.region (.mv rfl rfl (.mv rfl rfl ?_)))))
      refine .call _ rfl E_ref01_at rfl (ref01_at_c (hB0 hB)) fun v3 W3 e3 h3 => ?_
      subst h3
      refine .mv rfl rfl (.mul rfl rfl rfl (.mv rfl rfl (.add rfl rfl rfl (.asg rfl rfl (.nil ?_)))))
      have hmul : b.getD i 0 * n ≤ 65535 * 65536 := Nat.mul_le_mul (by omega) hn
      rw [← Int.natCast_mul, wI (n := ((b.getD i 0 * n : Nat) : Int)) (by omega), ← Int.natCast_add, wI (by omega)]
      generalize hm : b.getD i 0 * n + c = m at *
      refine .seq (.region (.mv rfl rfl (.mv rfl rfl (.rem rfl rfl rfl (by decide) ?_))))
      rw [tmod16]
      refine .bsl _ rfl rfl bsl_H1 fun W5 b5 n5 => ?_
      obtain ⟨e5, k5, hb5, hs5⟩ := n5
      have e35 := e3.trans e5
      have hB5 : Below w.heap.size w W5 := hB.trans (e35.mono hB.size)
      refine .gv rfl rfl (g_appH (base := w.heap.size) un_H info_int rfl rfl (ho.ext e35) k5 (by omega) (by omega) hB5.size) ?_
      rintro v6 W6 ⟨ho6, hg6⟩
      refine .asg rfl rfl (.nil (.region (.mv rfl rfl (.quo rfl rfl rfl (by decide) (.asg rfl rfl (.nil ?_))))))
      rw [tdiv16, wI (by omega)]
      refine .region (.mv rfl rfl (.add rfl rfl rfl (.asg rfl rfl (.nil ?_))))
      rw [wI (by omega)]
      have hget : b.length ≤ i → m = c := by
        intro h
        have h2 : b.getD i 0 = 0 := getD_out h
        rw [h2] at hm; omega
      refine ⟨rfl, (i + 1, v6, _, m / 65536), look_cons rfl (look_cons rfl (look_cons rfl (look_cons rfl (look_cons rfl look_nil)))), ⟨(ho.ext e35).below hg6 hB5 hB5.size, ?_, by show (r ++ [_]).length = _; simp [hr], ho6, by show m / 65536 ≤ 65536; omega, ?_, ?_, ?_⟩, ?_⟩
      · show i + 1 ≤ b.length + 2
        rcases hgo with h | h
        · omega
        · by_cases hh : b.length + 1 < i
          · have := hc0 hh; omega
          · omega
      · intro h
        have h' : b.length < i + 1 := h
        have := hget (by omega)
        show m / 65536 ≤ 1
        omega
      · intro h
        have h' : b.length + 1 < i + 1 := h
        have h1 := hget (by omega)
        have h2 := hc1 (by omega)
        show m / 65536 = 0
        omega
      · show valH (r ++ [m % 65536]) + 65536 ^ (i + 1) * (m / 65536) = valH (b.take (i + 1)) * n
        rw [valH_snoc, valH_take_succ, hr, Nat.add_mul, ← hv]
        have hdm := Nat.div_add_mod m 65536
        generalize m / 65536 = q at *
        generalize m % 65536 = z at *
        have : 65536 ^ i * z + 65536 ^ (i + 1) * q = 65536 ^ i * (b.getD i 0 * n + c) := by
          rw [hm, ← hdm, Nat.pow_succ]; grind
        rw [Nat.mul_add, ← Nat.mul_assoc] at this
        omega
      · show 100000 * (b.length - (i + 1)) + m / 65536 < 100000 * (b.length - i) + c
        rcases Nat.lt_or_ge i b.length with h | h
        · omega
        · have := hget h; omega

theorem E_ref01_sub : Ent Tryz.prog 114 := ent_of Tryz.func114 (by kernel_rfl) rfl
theorem ref01_sub_c {S : Nat → Prop} {w : World} {va vb : Value} {a b : List Nat} (up : Up S w) (ha : eHs.R S w va a) (hb : eHs.R S w vb b) (hla : a.length ≤ 100000000000) (hab : valH b ≤ valH a) : CR Tryz.prog 114 #[va, vb] w (eHs.at S (hds (valH a - valH b))) := by
  have hda := eH_dig ha
  have hdb := eH_dig hb
  have hA : ∀ {W : World}, Below w.heap.size w W → eHs.R (fun k => S k ∧ k < w.heap.size) W va a := fun hB => eHs.keep (fun k c t f hk h => (hB.block k hk.2).trans h) (ER.lt eHs ha)
  have hBb : ∀ {W : World}, Below w.heap.size w W → eHs.R (fun k => S k ∧ k < w.heap.size) W vb b := fun hB => eHs.keep (fun k c t f hk h => (hB.block k hk.2).trans h) (ER.lt eHs hb)
  refine enter Tryz.func114 rfl Tryz.ntmps114 rfl ?_
  refine .seq (.region (.asg rfl rfl (.nil (.seq (.region (.asg rfl rfl (.nil (.seq (.region (.asg rfl rfl (.nil (.seq (.seq (.region (.asg rfl rfl (.nil ?_))))))))))))))))
  refine .block (.loop (α := Nat × Value × List Nat × Nat) (fun x => [(0, va), (1, vb), (5, x.2.1), (6, .int .i64 (x.2.2.2 : Nat)), (7, .int .i64 (x.1 : Nat))])
    (fun x W => Below w.heap.size w W ∧ x.1 ≤ a.length ∧ x.2.2.1.length = x.1 ∧ OwnH 3 w.heap.size W x.2.1 x.2.2.1 ∧ x.2.2.2 ≤ 1 ∧ valH x.2.2.1 + valH (b.take x.1) = valH (a.take x.1) + 65536 ^ x.1 * x.2.2.2)
    (fun x => a.length - x.1) (0, .slice none 0 0, [], 0) ?_ ?_ ?_)
  · exact look_cons rfl (look_cons rfl (look_cons rfl (look_cons rfl (look_cons rfl look_nil))))
  · exact ⟨Below.refl _ _, Nat.zero_le _, rfl, OwnH.nil, Nat.zero_le _, by simp [valH]⟩
  · rintro ⟨i, u, r, c⟩ W ⟨hB, hi, hr, ho, hc, hv⟩
    replace hB : Below w.heap.size w W := hB
    replace hi : i ≤ a.length := hi
    replace hr : r.length = i := hr
    replace ho : OwnH 3 w.heap.size W u r := ho
    replace hc : c ≤ 1 := hc
    replace hv : valH r + valH (b.take i) = valH (a.take i) + 65536 ^ i * c := hv
    have hxa := digH_getD hda i
    have hxb := digH_getD hdb i
    refine .weak [(0, va), (1, vb), (5, u), (6, .int .i64 (c : Nat)), (7, .int .i64 (i : Nat))] (fun t v h => h) ?_
    refine .seq (.seq (.region (.mv rfl rfl (.mv rfl rfl (.lenR un_H rfl rfl (hA hB) ?_)))))
    by_cases hlt : i < a.length
    · refine .lssT rfl rfl rfl (by omega) (.nil (.condT rfl (.skip (.seq (.block (.seq (.region (.mv rfl rfl (.mv rfl rfl ?_)))))))))
      refine .call _ rfl E_ref01_at rfl (ref01_at_c (hA hB)) fun v3 W3 e3 h3 => .mv rfl rfl (.mv rfl rfl ?_)
      subst h3
      have hB3 : Below w.heap.size w W3 := hB.trans (e3.mono hB.size)
      refine .call _ rfl E_ref01_at rfl (ref01_at_c (hBb hB3)) fun v4 W4 e4 h4 => ?_
      subst h4
      refine .sub rfl rfl rfl (.mv rfl rfl (.sub rfl rfl rfl (.asg rfl rfl (.nil ?_))))
      rw [wI (n := ((a.getD i 0 : Nat) : Int) - ((b.getD i 0 : Nat) : Int)) (by omega), wI (by omega)]
      have e34 := e3.trans e4
      refine .seq (.region (.asg rfl rfl (.nil ?_)))
      generalize hx : a.getD i 0 = x at *
      generalize hy : b.getD i 0 = y at *
      refine .mid (α := Nat × Nat) (fun p => [(0, va), (1, vb), (5, u), (6, .int .i64 (p.2 : Nat)), (7, .int .i64 (i : Nat)), (8, .int .i64 (p.1 : Nat))]) (fun p W' => W' = W4 ∧ p.1 < 65536 ∧ p.2 ≤ 1 ∧ p.1 + y + c = x + 65536 * p.2) ?_ ?_
      · refine .seq (.region (.mv rfl rfl ?_))
        by_cases h0 : (x : Int) - (y : Int) - (c : Int) < 0
        · refine .lssT rfl rfl rfl h0 (.nil (.condT rfl (.seq (.region (.mv rfl rfl (.add rfl rfl rfl (.asg rfl rfl (.nil (.region (.asg rfl rfl (.nil ?_)))))))))))
          rw [wI (by omega), show (x : Int) - (y : Int) - (c : Int) + 65536 = ((x + 65536 - y - c : Nat) : Int) by omega]
          exact ⟨rfl, (x + 65536 - y - c, 1), look_cons rfl (look_cons rfl (look_cons rfl (look_cons rfl (look_cons rfl (look_cons rfl look_nil))))), rfl, by show x + 65536 - y - c < 65536; omega, Nat.le_refl _, by show x + 65536 - y - c + y + c = x + 65536 * 1; omega⟩
        · refine .lssF rfl rfl rfl h0 (.nil (.condF rfl (.skip ?_)))
          rw [show (x : Int) - (y : Int) - (c : Int) = ((x - y - c : Nat) : Int) by omega]
          exact ⟨rfl, (x - y - c, 0), look_cons rfl (look_cons rfl (look_cons rfl (look_cons rfl (look_cons rfl (look_cons rfl look_nil))))), rfl, by show x - y - c < 65536; omega, Nat.zero_le _, by show x - y - c + y + c = x + 65536 * 0; omega⟩
      · rintro ⟨z, l⟩ W' ⟨rfl, hz, hl, hzl⟩
        replace hz : z < 65536 := hz
        replace hl : l ≤ 1 := hl
        replace hzl : z + y + c = x + 65536 * l := hzl
        refine .region (.mv rfl rfl (.mv rfl rfl (.bsl _ rfl rfl bsl_H1 fun W5 b5 n5 => ?_)))
        obtain ⟨e5, k5, hb5, hs5⟩ := n5
        have e35 := e34.trans e5
        have hB5 : Below w.heap.size w W5 := hB.trans (e35.mono hB.size)
        refine .gv rfl rfl (g_appH (base := w.heap.size) un_H info_int rfl rfl (ho.ext e35) k5 hz (by omega) hB5.size) ?_
        rintro v6 W6 ⟨ho6, hg6⟩
        refine .asg rfl rfl (.nil (.region (.mv rfl rfl (.add rfl rfl rfl (.asg rfl rfl (.nil ?_))))))
        rw [wI (by omega)]
        refine ⟨rfl, (i + 1, v6, _, l), look_cons rfl (look_cons rfl (look_cons rfl (look_cons rfl (look_cons rfl look_nil)))), ⟨(ho.ext e35).below hg6 hB5 hB5.size, hlt, by show (r ++ [_]).length = _; simp [hr], ho6, hl, ?_⟩, by show a.length - (i + 1) < a.length - i; omega⟩
        show valH (r ++ [z]) + valH (b.take (i + 1)) = valH (a.take (i + 1)) + 65536 ^ (i + 1) * l
        rw [valH_snoc, valH_take_succ, valH_take_succ, hr, hx, hy, Nat.pow_succ]
        have : 65536 ^ i * (z + y + c) = 65536 ^ i * (x + 65536 * l) := by rw [hzl]
        rw [Nat.mul_add, Nat.mul_add, Nat.mul_add, ← Nat.mul_assoc] at this
        omega
    · refine .lssF rfl rfl rfl (by omega) (.nil (.condF rfl (.exit (.seq (.region (.mv rfl rfl ?_))))))
      refine .call _ rfl E_ref01_trim rfl (ref01_trim_c (ho.toR up)) fun v2 W2 e2 h2 => .asg rfl rfl (.nil (.ret ?_))
      refine .plain [_] Tryz.results114 ⟨rfl, trivial⟩ ⟨hB.trans (e2.mono hB.size), ?_⟩
      have hie : i = a.length := by omega
      subst hie
      rw [valH_take_all (l := a) (Nat.le_refl _)] at hv
      have h1 := valH_lt hda
      have h2' := valH_lt ho.2
      rw [hr] at h2'
      have h3 := valH_split b a.length
      have hp : 0 < 65536 ^ a.length := Nat.pow_pos (by omega)
      have h4 : valH (b.drop a.length) = 0 := by
        rcases Nat.eq_zero_or_pos (valH (b.drop a.length)) with h | h
        · exact h
        · have : 65536 ^ a.length * 1 ≤ 65536 ^ a.length * valH (b.drop a.length) := Nat.mul_le_mul_left _ h
          omega
      rw [h4, Nat.mul_zero, Nat.add_zero] at h3
      have h5 : c = 0 := by
        rcases Nat.eq_zero_or_pos c with h | h
        · exact h
        · have : c = 1 := by omega
          rw [this, Nat.mul_one] at hv
          omega
      rw [h5, Nat.mul_zero, Nat.add_zero, ← h3] at hv
      rw [show valH a - valH b = valH r by omega, ← trimH ho.2]; exact h2

theorem E_ref01_cmp : Ent Tryz.prog 113 := ent_of Tryz.func113 (by kernel_rfl) rfl
theorem ref01_cmp_c {S : Nat → Prop} {w : World} {va vb : Value} {a b : List Nat} (ha : eHs.R S w va a) (hb : eHs.R S w vb b) (hla : a.length ≤ 100000000000) (hlb : b.length ≤ 100000000000) : CR Tryz.prog 113 #[va, vb] w (Is (.int .i64 (cmpN (valH a) (valH b)))) := by
  have hda := eH_dig ha
  have hdb := eH_dig hb
  refine enter Tryz.func113 rfl Tryz.ntmps113 rfl ?_
  refine .seq (.region (.asg rfl rfl (.nil (.seq (.seq (.region (.mv rfl rfl (.lenR un_H rfl rfl ha (.mv rfl rfl (.lenR un_H rfl rfl hb (.max_ rfl rfl rfl (.sub rfl rfl rfl (.asg rfl rfl (.nil ?_))))))))))))))
  rw [wI (by omega), show max (a.length : Int) (b.length : Int) - 1 = ((max a.length b.length : Nat) : Int) - 1 by omega]
  refine .block (.loop (α := Nat) (fun j => [(0, va), (1, vb), (5, .int .i64 ((j : Nat) - 1 : Int))]) (fun j W => Ext w W ∧ j ≤ max a.length b.length ∧ valH (a.drop j) = valH (b.drop j)) (fun j => j) (max a.length b.length) ?_ ?_ ?_)
  · exact look_cons rfl (look_cons rfl (look_cons rfl look_nil))
  · exact ⟨.refl _, Nat.le_refl _, by rw [List.drop_eq_nil_of_le (by omega), List.drop_eq_nil_of_le (by omega)]⟩
  · rintro j W ⟨hW, hj, heq⟩
    refine .seq (.seq (.region (.mv rfl rfl ?_)))
    cases j with
    | zero =>
      refine .geqF rfl rfl rfl (by simp) (.nil (.condF rfl (.exit (.seq (.region (.asg rfl rfl (.nil (.ret ?_))))))))
      refine .plain [_] Tryz.results113 ⟨rfl, trivial⟩ ⟨hW, isI ?_⟩
      simp at heq
      unfold cmpN; rw [heq]; simp
    | succ i =>
      rw [show (((i + 1 : Nat) : Int) - 1) = (i : Int) by omega]
      have ea := valH_split a i
      have eb := valH_split b i
      have da := valH_drop' a i
      have db := valH_drop' b i
      have ta := valH_take_lt hda i
      have tb := valH_take_lt hdb i
      have hp : 0 < 65536 ^ i := Nat.pow_pos (by omega)
      refine .geqT rfl rfl rfl (by omega) (.nil (.condT rfl (.skip (.seq (.block (.seq (.seq (.region (.mv rfl rfl (.mv rfl rfl ?_))))))))))
      refine .call _ rfl E_ref01_at rfl (ref01_at_c (ha.ext hW)) fun v3 W3 e3 h3 => .mv rfl rfl (.mv rfl rfl ?_)
      subst h3
      have hW3 := hW.trans e3
      refine .call _ rfl E_ref01_at rfl (ref01_at_c (hb.ext hW3)) fun v4 W4 e4 h4 => ?_
      subst h4
      have hW4 := hW3.trans e4
      by_cases h1 : a.getD i 0 < b.getD i 0
      · refine .lssT rfl rfl rfl (by omega) (.nil (.condT rfl (.seq (.region (.asg rfl rfl (.nil (.ret ?_)))))))
        refine .plain [_] Tryz.results113 ⟨rfl, trivial⟩ ⟨hW4, isI ?_⟩
        have hlt : valH (a.drop i) + 1 ≤ valH (b.drop i) := by omega
        have hm : 65536 ^ i * (valH (a.drop i) + 1) ≤ 65536 ^ i * valH (b.drop i) := Nat.mul_le_mul_left _ hlt
        rw [Nat.mul_add, Nat.mul_one] at hm
        unfold cmpN; rw [if_pos (by omega)]
      · refine .lssF rfl rfl rfl (by omega) (.nil (.condF rfl (.skip (.seq (.region (.mv rfl rfl (.mv rfl rfl ?_)))))))
        refine .call _ rfl E_ref01_at rfl (ref01_at_c (ha.ext hW4)) fun v5 W5 e5 h5 => .mv rfl rfl (.mv rfl rfl ?_)
        subst h5
        have hW5 := hW4.trans e5
        refine .call _ rfl E_ref01_at rfl (ref01_at_c (hb.ext hW5)) fun v6 W6 e6 h6 => ?_
        subst h6
        have hW6 := hW5.trans e6
        by_cases h2 : b.getD i 0 < a.getD i 0
        · refine .gtrT rfl rfl rfl (by omega) (.nil (.condT rfl (.seq (.region (.asg rfl rfl (.nil (.ret ?_)))))))
          refine .plain [_] Tryz.results113 ⟨rfl, trivial⟩ ⟨hW6, isI ?_⟩
          have hlt : valH (b.drop i) + 1 ≤ valH (a.drop i) := by omega
          have hm : 65536 ^ i * (valH (b.drop i) + 1) ≤ 65536 ^ i * valH (a.drop i) := Nat.mul_le_mul_left _ hlt
          rw [Nat.mul_add, Nat.mul_one] at hm
          unfold cmpN; rw [if_neg (by omega), if_pos (by omega)]
        · refine .gtrF rfl rfl rfl (by omega) (.nil (.condF rfl (.skip (.region (.mv rfl rfl (.sub rfl rfl rfl (.asg rfl rfl (.nil ?_))))))))
          rw [wI (by omega)]
          exact ⟨rfl, i, look_cons rfl (look_cons rfl (look_cons rfl look_nil)), ⟨hW6, by omega, by omega⟩, by show i < i + 1; omega⟩

theorem E_ref01_small : Ent Tryz.prog 127 := ent_of Tryz.func127 (by kernel_rfl) rfl
theorem ref01_small_c {S : Nat → Prop} {w : World} {va : Value} {a : List Nat} (ha : eHs.R S w va a) (hla : a.length ≤ 3) : CR Tryz.prog 127 #[va] w (Is (.int .i64 (valH a))) := by
  have hda := eH_dig ha
  refine enter Tryz.func127 rfl Tryz.ntmps127 rfl ?_
  refine .seq (.region (.asg rfl rfl (.nil (.seq (.region (.asg rfl rfl (.nil (.seq (.seq (.region (.mv rfl rfl (.lenR un_H rfl rfl ha (.sub rfl rfl rfl (.asg rfl rfl (.nil ?_)))))))))))))))
  rw [wI (by omega)]
  refine .block (.loop (α := Nat) (fun j => [(0, va), (3, .int .i64 (valH (a.drop j) : Nat)), (4, .int .i64 ((j : Nat) - 1 : Int))]) (fun j W => W = w ∧ j ≤ a.length) (fun j => j) a.length ?_ ?_ ?_)
  · refine look_cons rfl (look_cons ?_ (look_cons rfl look_nil))
    rw [List.drop_eq_nil_of_le (Nat.le_refl _)]; rfl
  · exact ⟨rfl, Nat.le_refl _⟩
  · rintro j W ⟨rfl, hj⟩
    refine .seq (.seq (.region (.mv rfl rfl ?_)))
    cases j with
    | zero =>
      refine .geqF rfl rfl rfl (by simp) (.nil (.condF rfl (.exit (.seq (.region (.mv rfl rfl (.asg rfl rfl (.nil (.ret ?_)))))))))
      exact .plain [_] Tryz.results127 ⟨rfl, trivial⟩ ⟨.refl _, rfl⟩
    | succ i =>
      rw [show (((i + 1 : Nat) : Int) - 1) = (i : Int) by omega]
      have hx := digH_getD hda i
      have hlt := valH_lt (show digH (a.drop (i + 1)) from fun x hx => hda x (List.mem_of_mem_drop hx))
      have hlen : (a.drop (i + 1)).length ≤ 2 := by simp; omega
      have hpw : 65536 ^ (a.drop (i + 1)).length ≤ 65536 ^ 2 := Nat.pow_le_pow_right (by omega) hlen
      have hd := valH_drop (l := a) (k := i) (by omega)
      refine .geqT rfl rfl rfl (by omega) (.nil (.condT rfl (.skip (.seq (.block (.region (.mv rfl rfl (.mul rfl rfl rfl (.mv rfl rfl (.mv rfl rfl ?_))))))))))
      refine .ixN (i := i) un_H ty_int rfl rfl ha rfl (getD_get (by omega)) fun p hp => .ldE ty_int rfl rfl hp fun e he => ?_
      obtain ⟨rfl, _⟩ := he
      refine .add rfl rfl rfl (.asg rfl rfl (.nil (.region (.mv rfl rfl (.sub rfl rfl rfl (.asg rfl rfl (.nil ?_)))))))
      rw [wI (n := ((valH (a.drop (i + 1)) : Nat) : Int) * 65536) (by omega), wI (n := ((valH (a.drop (i + 1)) : Nat) : Int) * 65536 + _) (by omega), wI (n := (i : Int) - 1) (by omega)]
      refine ⟨rfl, i, look_cons rfl (look_cons ?_ (look_cons rfl look_nil)), ⟨rfl, by omega⟩, by show i < i + 1; omega⟩
      show some (Value.int .i64 (((valH (a.drop (i + 1)) : Nat) : Int) * 65536 + ((a.getD i 0 : Nat) : Int))) = _
      rw [hd]
      congr 2; omega
end Go.Proofs.YtgghedhmjhaieaaGreat

namespace Go.Kx
theorem valH_drop_le (a : List Nat) (j : Nat) : valH (a.drop j) ≤ valH a := by
  have h := valH_split a j
  have hp : 1 ≤ 65536 ^ j := Nat.pow_pos (by omega)
  have : 1 * valH (a.drop j) ≤ 65536 ^ j * valH (a.drop j) := Nat.mul_le_mul_right _ hp
  omega
end Go.Kx
namespace Go.Proofs.YtgghedhmjhaieaaGreat
open Go Go.Kx Go.RowKit

theorem E_ref01_back : Ent Tryz.prog 126 := ent_of Tryz.func126 (by kernel_rfl) rfl
theorem ref01_back_c {S : Nat → Prop} {w : World} {v : Nat} (up : Up S w) (hv : v < 281474976710656) : CR Tryz.prog 126 #[.int .i64 v] w (eHs.at S (hds v)) := by
  refine enter Tryz.func126 rfl Tryz.ntmps126 rfl ?_
  refine .seq (.region (.asg rfl rfl (.nil (.seq (.region (.mv rfl rfl (.rem rfl rfl rfl (by decide) (.mv rfl rfl (.quo rfl rfl rfl (by decide) ?_))))))))) 
  rw [tmod16, tdiv16, wI (by omega)]
  refine .rem rfl rfl rfl (by decide) (.mv rfl rfl (.quo rfl rfl rfl (by decide) ?_))
  rw [tmod16, tdiv16, wI (by omega)]
  refine .quo rfl rfl rfl (by decide) ?_
  rw [tdiv16, wI (by omega)]
  refine .bsl _ rfl rfl bsl_H3 fun w1 b1 n1 => ?_
  have hd : digH [v % 65536, v / 65536 % 65536, v / 65536 / 65536] := by
    intro x hx
    simp at hx
    omega
  have ho : OwnH 3 w.heap.size w1 (.slice (some ⟨b1, 0, none⟩) 3 3) [v % 65536, v / 65536 % 65536, v / 65536 / 65536] := OwnH.lit (l := [v % 65536, v / 65536 % 65536, v / 65536 / 65536]) n1 (Nat.le_refl _) hd (by simp)
  have hval : valH [v % 65536, v / 65536 % 65536, v / 65536 / 65536] = v := by simp only [valH]; omega
  refine .call _ rfl E_ref01_trim rfl (ref01_trim_c (ho.toR up)) fun v2 w2 e2 h2 => .asg rfl rfl (.nil (.ret ?_))
  rw [trimH hd, hval] at h2
  exact .plain [_] Tryz.results126 ⟨rfl, trivial⟩ ⟨n1.1.trans e2, h2⟩

theorem E_ref01_mul : Ent Tryz.prog 102 := ent_of Tryz.func102 (by kernel_rfl) rfl
theorem ref01_mul_c {S : Nat → Prop} {w : World} {va vb : Value} {a b : List Nat} (up : Up S w) (ha : eHs.R S w va a) (hb : eHs.R S w vb b) (hla : a.length ≤ 10000000000) (hlb : b.length ≤ 10000000000) : CR Tryz.prog 102 #[va, vb] w (eHs.at S (hds (valH a * valH b))) := by
  have hda := eH_dig ha
  have hdb := eH_dig hb
  have hlt : valH a * valH b < 65536 ^ (a.length + b.length) := by
    rw [Nat.pow_add]; exact Nat.mul_lt_mul'' (valH_lt hda) (valH_lt hdb)
  refine enter Tryz.func102 rfl Tryz.ntmps102 rfl ?_
  refine .seq (.region (.asg rfl rfl (.nil (.seq (.seq (.region (.mv rfl rfl (.lenR un_H rfl rfl ha (.mv rfl rfl (.lenR un_H rfl rfl hb (.add rfl rfl rfl ?_)))))))))))
  rw [wI (by omega)]
  by_cases h3 : a.length + b.length ≤ 3
  · refine .leqT rfl rfl rfl (by omega) (.nil (.condT rfl (.seq (.region (.mv rfl rfl ?_)))))
    refine .call _ rfl E_ref01_small rfl (ref01_small_c ha (by omega)) fun v1 w1 e1 h1 => .mv rfl rfl ?_
    subst h1
    refine .call _ rfl E_ref01_small rfl (ref01_small_c (hb.ext e1) (by omega)) fun v2 w2 e2 h2 => ?_
    subst h2
    refine .mul rfl rfl rfl ?_
    have hp : 65536 ^ (a.length + b.length) ≤ 65536 ^ 3 := Nat.pow_le_pow_right (by omega) h3
    have hsm : valH a * valH b < 281474976710656 := by omega
    rw [← Int.natCast_mul, wI (by omega)]
    have x2 := e1.trans e2
    refine .call _ rfl E_ref01_back rfl (ref01_back_c (up.ext x2.size) hsm) fun v3 w3 e3 h3 => .asg rfl rfl (.nil (.ret ?_))
    exact .plain [_] Tryz.results102 ⟨rfl, trivial⟩ ⟨x2.trans e3, h3⟩
  refine .leqF rfl rfl rfl (by omega) (.nil (.condF rfl (.skip ?_)))
  refine .seq (.region (.asg rfl rfl (.nil (.seq (.seq (.region (.mv rfl rfl (.lenR un_H rfl rfl ha (.sub rfl rfl rfl (.asg rfl rfl (.nil ?_)))))))))))
  rw [wI (by omega)]
  have hlen : ∀ n, n ≤ valH a * valH b → (hds n).length ≤ a.length + b.length := fun n hn => hds_length (Nat.lt_of_le_of_lt hn hlt)
  refine .block (.loop (α := Nat × Value × List Nat) (fun x => [(0, va), (1, vb), (5, x.2.1), (6, .int .i64 ((x.1 : Nat) - 1 : Int))]) (fun x W => Ext w W ∧ x.1 ≤ a.length ∧ eHs.R S W x.2.1 x.2.2 ∧ x.2.2.length ≤ a.length + b.length + (a.length - x.1) ∧ valH x.2.2 = valH (a.drop x.1) * valH b) (fun x => x.1) (a.length, .slice none 0 0, []) ?_ ?_ ?_)
  · exact look_cons rfl (look_cons rfl (look_cons rfl (look_cons rfl look_nil)))
  · refine ⟨.refl _, Nat.le_refl _, RL.nil, Nat.zero_le _, ?_⟩
    show valH [] = valH (a.drop a.length) * valH b
    rw [List.drop_eq_nil_of_le (Nat.le_refl _)]; simp [valH]
  · rintro ⟨j, u, r⟩ W ⟨hW, hj, hu, hrl, hrv⟩
    replace hW : Ext w W := hW
    replace hj : j ≤ a.length := hj
    replace hu : eHs.R S W u r := hu
    replace hrl : r.length ≤ a.length + b.length + (a.length - j) := hrl
    replace hrv : valH r = valH (a.drop j) * valH b := hrv
    refine .weak [(0, va), (1, vb), (5, u), (6, .int .i64 ((j : Nat) - 1 : Int))] (fun t v h => h) ?_
    refine .seq (.seq (.region (.mv rfl rfl ?_)))
    cases j with
    | zero =>
      refine .geqF rfl rfl rfl (by simp) (.nil (.condF rfl (.exit (.seq (.region (.mv rfl rfl ?_))))))
      refine .call _ rfl E_ref01_trim rfl (ref01_trim_c hu) fun v2 W2 e2 h2 => .asg rfl rfl (.nil (.ret ?_))
      rw [trimH (eH_dig hu), hrv, List.drop_zero] at h2
      exact .plain [_] Tryz.results102 ⟨rfl, trivial⟩ ⟨hW.trans e2, h2⟩
    | succ i =>
      rw [show (((i + 1 : Nat) : Int) - 1) = (i : Int) by omega]
      have hdr := valH_drop (l := a) (k := i) (by omega)
      have hx := digH_getD hda i
      have hget := getD_get (l := a) (k := i) (by omega)
      have hle := valH_drop_le a i
      generalize hxx : a.getD i 0 = x at *
      generalize hD : valH (a.drop (i + 1)) = D at *
      refine .geqT rfl rfl rfl (by omega) (.nil (.condT rfl (.skip (.seq (.block (.seq (.region (.bsl _ rfl rfl bsl_H1 fun W1 b1 n1 => .mv rfl rfl ?_))))))))
      have ho1 : OwnH 3 W.heap.size W1 (.slice (some ⟨b1, 0, none⟩) 1 1) [0] := OwnH.lit (l := [0]) n1 (Nat.le_refl _) (by intro y hy; simp at hy; omega) (by simp)
      refine .gv rfl rfl (g_appHs (base := W.heap.size) un_H info_int rfl rfl ho1 (hu.ext n1.1) (by simp) (by omega) n1.1.size) ?_
      rintro v2 W2 ⟨ho2, hB2⟩
      have e2 : Ext W W2 := Below.trans n1.1 hB2
      have hu2 : eHs.R S W2 v2 (0 :: r) := ho2.toR (fun k hk => up k (by have := hW.size; omega))
      refine .asg rfl rfl (.nil (.seq (.region (.asg rfl rfl (.nil ?_)))))
      have hW2 := hW.trans e2
      refine .block (.loop (α := Nat × Value × List Nat) (fun y => [(0, va), (1, vb), (5, y.2.1), (6, .int .i64 (i : Nat)), (7, .int .i64 (y.1 : Nat))]) (fun y W => Ext w W ∧ y.1 ≤ 70000 ∧ eHs.R S W y.2.1 y.2.2 ∧ y.2.2.length ≤ a.length + b.length + (a.length - i) ∧ valH y.2.2 = 65536 * (D * valH b) + min y.1 x * valH b) (fun y => 80000 - y.1) (0, v2, 0 :: r) ?_ ?_ ?_)
      · exact look_cons rfl (look_cons rfl (look_cons rfl (look_cons rfl (look_cons rfl look_nil))))
      · refine ⟨hW2, Nat.zero_le _, hu2, by show (0 :: r).length ≤ _; simp; omega, ?_⟩
        show valH (0 :: r) = _
        rw [valH, hrv, Nat.zero_min]; omega
      · rintro ⟨k, u', r'⟩ W3 ⟨hW3, hk, hu', hrl', hrv'⟩
        replace hW3 : Ext w W3 := hW3
        replace hk : k ≤ 70000 := hk
        replace hu' : eHs.R S W3 u' r' := hu'
        replace hrl' : r'.length ≤ a.length + b.length + (a.length - i) := hrl'
        replace hrv' : valH r' = 65536 * (D * valH b) + min k x * valH b := hrv'
        refine .weak [(0, va), (1, vb), (5, u'), (6, .int .i64 (i : Nat)), (7, .int .i64 (k : Nat))] (fun t v h => h) ?_
        refine .seq (.seq (.region (.mv rfl rfl (.mv rfl rfl (.mv rfl rfl ?_)))))
        refine .ixN (i := i) un_H ty_int rfl rfl (ha.ext hW3) rfl hget fun p hp => .ldE ty_int rfl rfl hp fun e he => ?_
        obtain ⟨rfl, _⟩ := he
        by_cases hkx : k < x
        · refine .lssT rfl rfl rfl (by omega) (.nil (.condT rfl (.skip (.seq (.block (.region (.mv rfl rfl (.mv rfl rfl (.mv rfl rfl (.mv rfl rfl ?_))))))))))
          refine .ixN (i := i) un_H ty_int rfl rfl (ha.ext hW3) rfl hget fun p' hp' => .ldE ty_int rfl rfl hp' fun e' he' => ?_
          obtain ⟨rfl, _⟩ := he'
          refine .mv rfl rfl (.sub rfl rfl rfl (.min_ rfl rfl rfl ?_))
          rw [wI (by omega), show min (1024 : Int) ((x : Int) - (k : Int)) = ((min 1024 (x - k) : Nat) : Int) by omega]
          refine .call _ rfl E_ref01_times rfl (ref01_times_c (up.ext hW3.size) (hb.ext hW3) (by omega) (show min 1024 (x - k) ≤ 65536 by omega)) fun v4 W4 e4 h4 => ?_
          have hW4 := hW3.trans e4
          have hmle : min (k + 1024) x * valH b + 65536 * (D * valH b) ≤ valH a * valH b := by
            have h1 : min (k + 1024) x + 65536 * D ≤ valH a := by omega
            have := Nat.mul_le_mul_right (valH b) h1
            rw [Nat.add_mul, Nat.mul_assoc] at this
            exact this
          have hsum : 65536 * (D * valH b) + min k x * valH b + valH b * min 1024 (x - k) = 65536 * (D * valH b) + min (k + 1024) x * valH b := by
            have : min (k + 1024) x = min k x + min 1024 (x - k) := by omega
            rw [this, Nat.add_mul, Nat.mul_comm (valH b)]; omega
          have hn2 : valH b * min 1024 (x - k) ≤ valH a * valH b := by omega
          refine .call _ rfl E_ref01_add rfl (ref01_add_c (up.ext hW4.size) (hu'.ext e4) h4 (by omega) (by have := hlen _ hn2; omega)) fun v5 W5 e5 h5 => .asg rfl rfl (.nil (.region (.mv rfl rfl (.add rfl rfl rfl (.asg rfl rfl (.nil ?_))))))
          rw [valH_hds, hrv', hsum] at h5
          rw [wI (by omega)]
          refine ⟨rfl, (k + 1024, v5, _), look_cons rfl (look_cons rfl (look_cons rfl (look_cons rfl (look_cons rfl look_nil)))), ⟨hW4.trans e5, by show k + 1024 ≤ 70000; omega, h5, ?_, ?_⟩, by show 80000 - (k + 1024) < 80000 - k; omega⟩
          · show (hds _).length ≤ _
            have := hlen (65536 * (D * valH b) + min (k + 1024) x * valH b) (by omega)
            omega
          · show valH (hds _) = _
            rw [valH_hds]
        · refine .lssF rfl rfl rfl (by omega) (.nil (.condF rfl (.exit ?_)))
          refine .region (.mv rfl rfl (.sub rfl rfl rfl (.asg rfl rfl (.nil ?_))))
          rw [wI (by omega)]
          refine ⟨rfl, (i, u', r'), look_cons rfl (look_cons rfl (look_cons rfl (look_cons rfl look_nil))), ⟨hW3, by show i ≤ a.length; omega, hu', hrl', ?_⟩, by show i < i + 1; omega⟩
          show valH r' = valH (a.drop i) * valH b
          rw [hrv', hdr, Nat.min_eq_right (by omega), Nat.add_mul, Nat.mul_assoc]; omega
end Go.Proofs.YtgghedhmjhaieaaGreat

namespace Go.Kx
theorem hds_ge {n : Nat} (h : n ≠ 0) : 65536 ^ ((hds n).length - 1) ≤ n := by
  induction n using Nat.strongRecOn with
  | ind n ih =>
    rw [hds_pos h, List.length_cons, Nat.add_sub_cancel]
    by_cases h1 : n / 65536 = 0
    · rw [h1, hds_zero]; simp; omega
    · have := ih (n / 65536) (by omega) h1
      have hl : (hds (n / 65536)).length ≠ 0 := fun e => h1 (hds_eq_nil.1 (List.length_eq_zero_iff.1 e))
      obtain ⟨m, hm⟩ : ∃ m, (hds (n / 65536)).length = m + 1 := ⟨_, (Nat.succ_pred_eq_of_ne_zero hl).symm⟩
      rw [hm] at this ⊢
      rw [Nat.add_sub_cancel] at this
      rw [Nat.pow_succ]
      have := Nat.mul_le_mul_right 65536 this
      omega
theorem valH_set_drop {l : List Nat} {i q : Nat} (h : i < l.length) : valH ((l.set i q).drop i) = q + 65536 * valH (l.drop (i + 1)) := by
  rw [valH_drop (by simpa using h)]
  have h1 : (l.set i q).getD i 0 = q := by rw [List.getD_eq_getElem?_getD, List.getElem?_set_self h]; rfl
  have h2 : (l.set i q).drop (i + 1) = l.drop (i + 1) := by rw [List.drop_set]; simp
  rw [h1, h2]
/-- one step of a long division -/
theorem div_step {D d x R Q : Nat} (hd : 0 < d) (hQ : Q = D / d) (hR : R = D % d) : (x + 65536 * D) / d = (x + 65536 * R) / d + 65536 * Q ∧ (x + 65536 * D) % d = (x + 65536 * R) % d := by
  have h1 := Nat.div_add_mod D d
  rw [← hQ, ← hR] at h1
  have h2 : x + 65536 * D = (x + 65536 * R) + d * (65536 * Q) := by
    rw [← h1, Nat.mul_add]
    have : 65536 * (d * Q) = d * (65536 * Q) := by rw [← Nat.mul_assoc, Nat.mul_comm 65536 d, Nat.mul_assoc]
    omega
  rw [h2, Nat.add_mul_div_left _ _ hd, Nat.add_mul_mod_self_left]
  exact ⟨rfl, rfl⟩
end Go.Kx
namespace Go.Proofs.YtgghedhmjhaieaaGreat
open Go Go.Kx Go.RowKit

theorem v_ixA {P : Program} {σ : Env} {w : World} {dd : Option Tmp} {ty : TypeId} {pos : String} {af : Array Edge} {gd : Option (Nat × Bool)} {t e : TypeId} {x ix : Operand} {k : IntKind} {i : Nat} {b : Bool} {sz n c : Nat} {ad : Addr} (ht : P.underlying t = some (.slice e)) (he : tyOf P e = some (b, sz)) (hx : ev σ x = some (.slice (some ad) n c))
    (hi : ev σ ix = some (.int k (i : Int))) (hlt : i < n) : Vl P ⟨dd, .indexAddr t x ix, ty, pos, af, gd⟩ σ w (.pointer (some (ad.add (i * sz)))) := by
  refine ⟨(by intro _ h; cases h), fun ρ hρ => ?_⟩
  have h1 := hρ x _ (by simp [Op.operands]) hx
  have h2 := hρ ix _ (by simp [Op.operands]) hi
  simp [execOp, h1, h2, Instr.indexAt, asIntOf, run_underlying ht, (tyOf_agg he w).2]
  intro hh; omega
theorem ob_ldH {P : Program} {σ : Env} {w : World} {d : Option Tmp} {ty : TypeId} {pos : String} {af : Array Edge} {g : Option (Nat × Bool)} {S : Nat → Prop} {t : TypeId} {x : Operand} {u : Value} {y : Nat} (ht : tyOf P t = some (false, 1)) (hx : ev σ x = some u) (hp : Ptr eH S y u w) :
    Gv P ⟨d, .load t x, ty, pos, af, g⟩ σ w fun v' w' => Ext w w' ∧ Sp.ok (.inl (.int .i64 y)) v' w' := by
  obtain ⟨p, rfl, hp⟩ := hp
  exact (g_ldE ht hx hp).mono fun v' w' ⟨e1, h⟩ => by subst e1; exact ⟨Ext.refl _, h.1⟩
theorem zero_H {S : Nat → Prop} {w : World} : eH.R S w (.int .i64 0) 0 := ⟨rfl, by decide⟩
theorem FBH_dig {S : Nat → Prop} {w : World} {t : TypeId} {g : Nat} {l : List Nat} (h : FB eH t S w g l) : digH l := by
  intro x hx
  obtain ⟨es, _, he⟩ := h
  obtain ⟨i, hi⟩ := List.mem_iff_getElem?.1 hx
  have hlt : i < l.length := (List.getElem?_eq_some_iff.1 hi).1
  exact (he.2 i _ x (List.getElem?_eq_getElem (by rw [he.1]; exact hlt)) hi).2

theorem E_ref01_div : Ent Tryz.prog 129 := ent_of Tryz.func129 (by kernel_rfl) rfl
theorem ref01_div_c {S : Nat → Prop} {w : World} {va vb : Value} {m d : Nat} (up : Up S w) (ha : eHs.R S w va (hds m)) (hb : eHs.R S w vb (hds d)) (hla : (hds m).length ≤ 10000000000) (hlb : (hds d).length ≤ 10000000000) (hd : d ≠ 0) :
    CR Tryz.prog 129 #[va, vb] w (Two (eHs.at S (hds (m / d))) (eHs.at S (hds (m % d)))) := by
  have hda := digH_hds m
  have hdb := digH_hds d
  have hva := valH_hds m
  have hvb := valH_hds d
  have hbne : (hds d).length ≠ 0 := fun e => hd (hds_eq_nil.1 (List.length_eq_zero_iff.1 e))
  have hbge := hds_ge hd
  have hblt := hds_lt d
  generalize hds m = a at *
  generalize hds d = b at *
  have hA : ∀ {W : World}, Below w.heap.size w W → eHs.R (fun k => S k ∧ k < w.heap.size) W va a := fun hB => eHs.keep (fun k c t f hk h => (hB.block k hk.2).trans h) (ER.lt eHs ha)
  have hBb : ∀ {W : World}, Below w.heap.size w W → eHs.R (fun k => S k ∧ k < w.heap.size) W vb b := fun hB => eHs.keep (fun k c t f hk h => (hB.block k hk.2).trans h) (ER.lt eHs hb)
  refine enter Tryz.func129 rfl Tryz.ntmps129 rfl ?_
  refine .seq (.region (.asg rfl rfl (.asg rfl rfl (.nil ?_))))
  refine .mid (α := Unit) (fun _ => [(0, va), (1, vb)]) (fun _ W => W = w ∧ (3 < a.length ∨ 3 < b.length)) ?_ ?_
  · refine .seq (.region (.mv rfl rfl (.lenR un_H rfl rfl ha ?_)))
    by_cases h1 : a.length ≤ 3
    · refine .leqT rfl rfl rfl (by omega) (.mv rfl rfl (.gr rfl rfl rfl rfl (.mv rfl rfl (.gr rfl rfl rfl rfl (.lenR un_H rfl rfl hb (.gr rfl rfl rfl rfl ?_))))))
      by_cases h2 : b.length ≤ 3
      · refine .leqT rfl rfl rfl (by omega) (.pick rfl rfl rfl (.nil (.condT rfl (.seq (.region (.mv rfl rfl ?_))))))
        refine .call _ rfl E_ref01_small rfl (ref01_small_c ha h1) fun v1 w1 e1 r1 => .mv rfl rfl ?_
        subst r1
        refine .call _ rfl E_ref01_small rfl (ref01_small_c (hb.ext e1) h2) fun v2 w2 e2 r2 => ?_
        subst r2
        rw [hva, hvb]
        have x2 := e1.trans e2
        have hm3 : m < 281474976710656 := by
          have := valH_lt hda
          have hp : 65536 ^ a.length ≤ 65536 ^ 3 := Nat.pow_le_pow_right (by omega) h1
          omega
        have hdle : m / d ≤ m := Nat.div_le_self _ _
        have hmlt : m % d ≤ m := Nat.mod_le _ _
        refine .quo rfl rfl rfl (by omega) ?_
        rw [tdiv_nat, wI (by have h0 : (0 : Int) ≤ ((m / d : Nat) : Int) := Int.natCast_nonneg _; omega)]
        refine .call _ rfl E_ref01_back rfl (ref01_back_c (up.ext x2.size) (by omega)) fun v3 w3 e3 r3 => .mv rfl rfl ?_
        have x3 := x2.trans e3
        refine .call _ rfl E_ref01_small rfl (ref01_small_c (ha.ext x3) h1) fun v4 w4 e4 r4 => .mv rfl rfl ?_
        subst r4
        have x4 := x3.trans e4
        refine .call _ rfl E_ref01_small rfl (ref01_small_c (hb.ext x4) h2) fun v5 w5 e5 r5 => ?_
        subst r5
        rw [hva, hvb]
        have x5 := x4.trans e5
        refine .rem rfl rfl rfl (by omega) ?_
        rw [tmod_nat]
        refine .call _ rfl E_ref01_back rfl (ref01_back_c (up.ext x5.size) (by omega)) fun v6 w6 e6 r6 => .asg rfl rfl (.asg rfl rfl (.nil (.ret ?_)))
        exact .plain [_, _] Tryz.results129 ⟨rfl, rfl, trivial⟩ ⟨x5.trans e6, v3, v6, rfl, ER.ext eHs (ER.ext eHs (ER.ext eHs r3 e4) e5) e6, r6⟩
      · refine .leqF rfl rfl rfl (by omega) (.pick rfl rfl rfl (.nil (.condF rfl (.skip ?_))))
        exact ⟨rfl, (), look_cons rfl (look_cons rfl look_nil), rfl, by omega⟩
    · refine .leqF rfl rfl rfl (by omega) (.mv rfl rfl (.gs rfl rfl rfl rfl rfl (.gs rfl rfl rfl rfl rfl (.gs rfl rfl rfl rfl rfl (.pick rfl rfl rfl (.nil (.condF rfl (.skip ?_))))))))
      exact ⟨rfl, (), look_cons rfl (look_cons rfl look_nil), rfl, by omega⟩
  rintro _ W ⟨hWw, hbig⟩
  have hWw := hWw.symm
  subst hWw
  refine .seq (.region (.mv rfl rfl (.lenR un_H rfl rfl ha ?_)))
  refine .make_ _ _ un_H info_int rfl (by decide) rfl rfl rfl (Nat.le_refl _) (by omega) (by omega) fun w1 g n1 => .asg rfl rfl (.nil ?_)
  have f1 : FB eH 3 S w1 g (List.replicate a.length 0) := FB.made n1 zero_H
  obtain ⟨e1, k1, hg, hs1⟩ := n1
  -- the end of both ways
  have hout : ∀ {W2 : World} {l : List Nat}, FB eH 3 S W2 g l → l.length = a.length → eHs.R S W2 (.slice (some ⟨g, 0, none⟩) a.length a.length) l := by
    intro W2 l hF hl
    have := hF.toR (c := a.length) (hsz := by decide) (up g (by omega)) (by omega) (by omega)
    rwa [hl] at this
  refine .seq (.seq (.region (.mv rfl rfl (.lenR un_H rfl rfl (hBb e1) ?_))))
  by_cases hb1 : b.length = 1
  · refine .eqlT rfl rfl rfl (by omega) (.nil (.condT rfl (.seq (.region (.asg rfl rfl (.nil ?_))))))
    have hb0 : b.getD 0 0 = d := by
      match b, hb1 with
      | [x], _ => simpa [valH] using hvb
    have hd16 : d < 65536 := by rw [hb1] at hblt; simpa using hblt
    have hgetb := getD_get (l := b) (k := 0) (by omega)
    rw [hb0] at hgetb
    refine .mid (α := List Nat × Nat) (fun p => [(6, .slice (some ⟨g, 0, none⟩) a.length a.length), (7, .int .i64 (p.2 : Nat))]) (fun p W => Below w.heap.size w W ∧ FB eH 3 S W g p.1 ∧ p.1.length = a.length ∧ valH p.1 = m / d ∧ p.2 = m % d) ?_ ?_
    · refine .seq (.region (.mv rfl rfl (.lenR un_H rfl rfl (hA e1) (.sub rfl rfl rfl (.asg rfl rfl (.nil ?_))))))
      rw [wI (by omega)]
      refine .block (.loop (α := Nat × List Nat × Nat) (fun x => [(0, va), (1, vb), (6, .slice (some ⟨g, 0, none⟩) a.length a.length), (7, .int .i64 (x.2.2 : Nat)), (8, .int .i64 ((x.1 : Nat) - 1 : Int))])
        (fun x W => Below w.heap.size w W ∧ x.1 ≤ a.length ∧ FB eH 3 S W g x.2.1 ∧ x.2.1.length = a.length ∧ valH (x.2.1.drop x.1) = valH (a.drop x.1) / d ∧ x.2.2 = valH (a.drop x.1) % d) (fun x => x.1) (a.length, List.replicate a.length 0, 0) ?_ ?_ ?_)
      · exact look_cons rfl (look_cons rfl (look_cons rfl (look_cons rfl (look_cons rfl look_nil))))
      · refine ⟨e1, Nat.le_refl _, f1, by simp, ?_, ?_⟩
        · show valH ((List.replicate a.length 0).drop a.length) = _
          rw [List.drop_eq_nil_of_le (by simp), List.drop_eq_nil_of_le (Nat.le_refl _)]; simp [valH]
        · show 0 = _
          rw [List.drop_eq_nil_of_le (Nat.le_refl _)]; simp [valH]
      · rintro ⟨j, l, r⟩ W ⟨hB, hj, hF, hl, hq, hr⟩
        replace hB : Below w.heap.size w W := hB
        replace hj : j ≤ a.length := hj
        replace hF : FB eH 3 S W g l := hF
        replace hl : l.length = a.length := hl
        replace hq : valH (l.drop j) = valH (a.drop j) / d := hq
        replace hr : r = valH (a.drop j) % d := hr
        refine .weak [(0, va), (1, vb), (6, .slice (some ⟨g, 0, none⟩) a.length a.length), (7, .int .i64 (r : Nat)), (8, .int .i64 ((j : Nat) - 1 : Int))] (fun t v h => h) ?_
        have hsz := hB.size
        have hgl := hF.lt
        have hrd : r < d := by rw [hr]; exact Nat.mod_lt _ (by omega)
        refine .seq (.seq (.region (.mv rfl rfl ?_)))
        cases j with
        | zero =>
          refine .geqF rfl rfl rfl (by simp) (.nil (.condF rfl (.exit ?_)))
          rw [List.drop_zero, List.drop_zero, hva] at hq
          rw [List.drop_zero, hva] at hr
          exact ⟨rfl, (l, r), look_cons rfl (look_cons rfl look_nil), hB, hF, hl, hq, hr⟩
        | succ i =>
          rw [show (((i + 1 : Nat) : Int) - 1) = (i : Int) by omega]
          have hx := digH_getD hda i
          have hget := getD_get (l := a) (k := i) (by omega)
          have hdr := valH_drop (l := a) (k := i) (by omega)
          have hst := div_step (D := valH (a.drop (i + 1))) (x := a.getD i 0) (by omega : 0 < d) hq hr
          rw [← hdr] at hst
          generalize a.getD i 0 = x at *
          refine .geqT rfl rfl rfl (by omega) (.nil (.condT rfl (.skip (.seq (.block (.seq (.region (.mv rfl rfl (.mul rfl rfl rfl (.mv rfl rfl (.mv rfl rfl ?_)))))))))))
          refine .ixN (i := i) un_H ty_int rfl rfl (hA hB) rfl hget fun p hp => .ldE ty_int rfl rfl hp fun e he => ?_
          obtain ⟨rfl, _⟩ := he
          refine .add rfl rfl rfl (.asg rfl rfl (.nil ?_))
          rw [wI (n := (r : Int) * 65536) (by omega), wI (by omega), show (r : Int) * 65536 + (x : Int) = ((x + 65536 * r : Nat) : Int) by omega]
          generalize hy : x + 65536 * r = y at *
          have hyq : y / d < 65536 := by
            rw [Nat.div_lt_iff_lt_mul (by omega)]
            have : 65536 * (r + 1) ≤ 65536 * d := Nat.mul_le_mul_left _ hrd
            omega
          have hyr : y % d < d := Nat.mod_lt _ (by omega)
          obtain ⟨ad, cb, hvbs, _, hpt⟩ := RL.at_ (hBb hB) hgetb
          obtain ⟨eb, ⟨rfl, _⟩, hadS, hadc⟩ := hpt
          have hcell : W.cell? (ad.add (0 * 1)) = some (.int .i64 (d : Nat)) := hadc 0 _ rfl
          rw [block_add] at hadS
          have hkeep : ∀ {W' : World}, W'.heap[ad.block]? = W.heap[ad.block]? → W'.cell? (ad.add (0 * 1)) = some (.int .i64 (d : Nat)) := fun h => (cell_same (p := ad.add (0 * 1)) (by rw [block_add]; exact h)).trans hcell
          refine .held follows false (fun W' => W'.cell? (ad.add (0 * 1)) = some (.int .i64 (d : Nat))) [some _, some _, some _, some vb, some (.pointer (some (ad.add (0 * 1)))), some (.int .i64 (d : Nat)), some (.int .i64 ((y / d : Nat) : Int)), some _, some vb, some (.pointer (some (ad.add (0 * 1)))), some (.int .i64 (d : Nat)), some (.int .i64 ((y % d : Nat) : Int)), none, none, none] (by kernel_rfl) ⟨
            fun _ _ => v_mv rfl, fun _ _ => v_mv rfl, fun _ _ => v_mv rfl, fun _ _ => v_mv rfl,
            fun _ _ => v_ixA (i := 0) un_H ty_int (by rw [← hvbs]; rfl) rfl (by omega), fun _ h => v_ldP ty_int rfl h, fun _ _ => (v_quo rfl rfl (by omega)).eq (by rw [tdiv_nat, wI (by have h0 : (0 : Int) ≤ ((y / d : Nat) : Int) := Int.natCast_nonneg _; omega)]),
            fun _ _ => v_mv rfl, fun _ _ => v_mv rfl,
            fun _ _ => v_ixA (i := 0) un_H ty_int (by rw [← hvbs]; rfl) rfl (by omega), fun _ h => v_ldP ty_int rfl h, fun _ _ => (v_rem rfl rfl (by omega)).eq (by rw [tmod_nat]), trivial⟩ ?_
          intro W1 e1 hh1
          have hB1 : Below w.heap.size w W1 := hB.trans (e1.mono hsz)
          have hI1 := hkeep (W' := W1) (by rw [hh1])
          refine .gv hI1 rfl (v_ixB (i := i) un_H ty_int rfl rfl (by omega)).gv ?_
          rintro _ W1' ⟨rfl, hW1'⟩
          have hW1' := hW1'.symm
          subst hW1'
          refine .gv hI1 rfl (g_storeF (E := eH) (i := i) (z := y / d) (by decide) ty_int rfl rfl (hF.ext e1) rfl (by omega) (Nat.zero_add _) ⟨rfl, hyq⟩) ?_
          rintro _ W2 ⟨hF2, u2⟩
          have hI2 := hkeep (W' := W2) (by rw [u2.block ad.block (by have := hadS.2; omega), hh1])
          refine .gv hI2 rfl (v_as rfl).gv ?_
          rintro _ W2' ⟨rfl, hW2'⟩
          have hW2' := hW2'.symm
          subst hW2'
          refine .nil (.inr hI2) ?_
          refine .region (.mv rfl rfl (.sub rfl rfl rfl (.asg rfl rfl (.nil ?_))))
          rw [wI (by omega)]
          refine ⟨rfl, (i, l.set i (y / d), y % d), look_cons rfl (look_cons rfl (look_cons rfl (look_cons rfl (look_cons rfl look_nil)))), ⟨u2.below hB1 (by omega), by show i ≤ a.length; omega, hF2, by show (l.set i _).length = _; simpa using hl, ?_, hst.2.symm⟩, by show i < i + 1; omega⟩
          show valH ((l.set i (y / d)).drop i) = valH (a.drop i) / d
          rw [valH_set_drop (by omega), hst.1]
    · rintro ⟨l, r⟩ W ⟨hB, hF, hl, hq, hr⟩
      replace hF : FB eH 3 S W g l := hF
      replace hl : l.length = a.length := hl
      replace hq : valH l = m / d := hq
      replace hr : r = m % d := hr
      have hrd : r < d := by rw [hr]; exact Nat.mod_lt _ (by omega)
      refine .seq (.region (.mv rfl rfl ?_))
      refine .call _ rfl E_ref01_trim rfl (ref01_trim_c (hout hF hl)) fun v2 W2 e2 h2 => .mv rfl rfl (.bsl _ rfl rfl bsl_H1 fun W3 b3 n3 => ?_)
      have hB2 : Below w.heap.size w W2 := hB.trans (e2.mono hB.size)
      rw [trimH (FBH_dig hF), hq] at h2
      have hdr : digH [r] := by intro x hx; simp at hx; omega
      have ho3 : OwnH 3 W2.heap.size W3 (.slice (some ⟨b3, 0, none⟩) 1 1) [r] := OwnH.lit (l := [r]) n3 (Nat.le_refl _) hdr (by simp)
      refine .call _ rfl E_ref01_trim rfl (ref01_trim_c (S := S) (ho3.toR (fun k hk => up k (by have := hB2.size; omega)))) fun v4 W4 e4 h4 => .asg rfl rfl (.asg rfl rfl (.nil (.ret ?_)))
      rw [trimH hdr, show valH [r] = m % d by simp [valH, hr]] at h4
      have e24 := n3.1.trans e4
      exact .plain [_, _] Tryz.results129 ⟨rfl, rfl, trivial⟩ ⟨hB2.trans (e24.mono hB2.size), v2, v4, rfl, ER.ext eHs h2 e24, h4⟩
  · refine .eqlF rfl rfl rfl (by omega) (.nil (.condF rfl (.skip (.seq (.region (.asg rfl rfl (.nil ?_)))))))
    have hb2 : 2 ≤ b.length := by omega
    refine .mid (α := List Nat × Value) (fun p => [(6, .slice (some ⟨g, 0, none⟩) a.length a.length), (9, p.2)]) (fun p W => Below w.heap.size w W ∧ FB eH 3 S W g p.1 ∧ p.1.length = a.length ∧ valH p.1 = m / d ∧ eHs.R (fun k => S k ∧ k ≠ g) W p.2 (hds (m % d))) ?_ ?_
    · refine .seq (.region (.mv rfl rfl (.lenR un_H rfl rfl (hA e1) (.sub rfl rfl rfl (.asg rfl rfl (.nil ?_))))))
      rw [wI (by omega)]
      refine .block (.loop (α := Nat × List Nat × Value) (fun x => [(0, va), (1, vb), (6, .slice (some ⟨g, 0, none⟩) a.length a.length), (9, x.2.2), (10, .int .i64 ((x.1 : Nat) - 1 : Int))])
        (fun x W => Below w.heap.size w W ∧ x.1 ≤ a.length ∧ FB eH 3 S W g x.2.1 ∧ x.2.1.length = a.length ∧ valH (x.2.1.drop x.1) = valH (a.drop x.1) / d ∧ eHs.R (fun k => S k ∧ k ≠ g) W x.2.2 (hds (valH (a.drop x.1) % d))) (fun x => x.1) (a.length, List.replicate a.length 0, .slice none 0 0) ?_ ?_ ?_)
      · exact look_cons rfl (look_cons rfl (look_cons rfl (look_cons rfl (look_cons rfl look_nil))))
      · refine ⟨e1, Nat.le_refl _, f1, by simp, ?_, ?_⟩
        · show valH ((List.replicate a.length 0).drop a.length) = _
          rw [List.drop_eq_nil_of_le (by simp), List.drop_eq_nil_of_le (Nat.le_refl _)]; simp [valH]
        · show eHs.R _ _ _ (hds (valH (a.drop a.length) % d))
          rw [List.drop_eq_nil_of_le (Nat.le_refl _), valH, Nat.zero_mod, hds_zero]; exact RL.nil
      · rintro ⟨j, l, u⟩ W ⟨hB, hj, hF, hl, hq, hu⟩
        replace hB : Below w.heap.size w W := hB
        replace hj : j ≤ a.length := hj
        replace hF : FB eH 3 S W g l := hF
        replace hl : l.length = a.length := hl
        replace hq : valH (l.drop j) = valH (a.drop j) / d := hq
        replace hu : eHs.R (fun k => S k ∧ k ≠ g) W u (hds (valH (a.drop j) % d)) := hu
        refine .weak [(0, va), (1, vb), (6, .slice (some ⟨g, 0, none⟩) a.length a.length), (9, u), (10, .int .i64 ((j : Nat) - 1 : Int))] (fun t v h => h) ?_
        have hsz := hB.size
        have hgl := hF.lt
        refine .seq (.seq (.region (.mv rfl rfl ?_)))
        cases j with
        | zero =>
          refine .geqF rfl rfl rfl (by simp) (.nil (.condF rfl (.exit ?_)))
          rw [List.drop_zero, List.drop_zero, hva] at hq
          rw [List.drop_zero, hva] at hu
          exact ⟨rfl, (l, u), look_cons rfl (look_cons rfl look_nil), hB, hF, hl, hq, hu⟩
        | succ i =>
          rw [show (((i + 1 : Nat) : Int) - 1) = (i : Int) by omega]
          have hx := digH_getD hda i
          have hget := getD_get (l := a) (k := i) (by omega)
          have hdr := valH_drop (l := a) (k := i) (by omega)
          have hst := div_step (D := valH (a.drop (i + 1))) (x := a.getD i 0) (by omega : 0 < d) hq rfl
          rw [← hdr] at hst
          generalize a.getD i 0 = x at *
          have hR : valH (a.drop (i + 1)) % d < d := Nat.mod_lt _ (by omega)
          generalize hRR : valH (a.drop (i + 1)) % d = R at *
          have hRl : (hds R).length ≤ b.length := hds_length (Nat.lt_trans hR hblt)
          have upT : ∀ {W' : World}, Below w.heap.size w W' → g < W'.heap.size → Up (fun k => S k ∧ k ≠ g) W' := fun hB' hg' k hk => ⟨up k (by have := hB'.size; omega), by omega⟩
          refine .geqT rfl rfl rfl (by omega) (.nil (.condT rfl (.skip (.seq (.block (.seq (.region (.mv rfl rfl (.mv rfl rfl ?_)))))))))
          refine .ixN (i := i) un_H ty_int rfl rfl (hA hB) rfl hget fun p hp => .ldE ty_int rfl rfl hp fun e he => ?_
          obtain ⟨rfl, _⟩ := he
          refine .bsl _ rfl rfl bsl_H1 fun W1 b1 n1 => .mv rfl rfl ?_
          have ho1 : OwnH 3 W.heap.size W1 (.slice (some ⟨b1, 0, none⟩) 1 1) [x] := OwnH.lit (l := [x]) n1 (Nat.le_refl _) (by intro y hy; simp at hy; omega) (by simp)
          refine .gv rfl rfl (g_appHs (base := W.heap.size) un_H info_int rfl rfl ho1 (hu.ext n1.1) (by simp) (by omega) n1.1.size) ?_
          rintro v2 W2 ⟨ho2, hB2⟩
          have e2 : Ext W W2 := Below.trans n1.1 hB2
          have hs2 := e2.size
          have hu2 : eHs.R (fun k => S k ∧ k ≠ g) W2 v2 ([x] ++ hds R) := ho2.toR (fun k hk => ⟨up k (by omega), by omega⟩)
          refine .call _ rfl E_ref01_trim rfl (ref01_trim_c hu2) fun v3 W3 e3 h3 => .asg rfl rfl (.nil (.seq (.region (.asg rfl rfl (.asg rfl rfl (.nil ?_))))))
          have hv3 : valH ([x] ++ hds R) = x + 65536 * R := by show valH (x :: hds R) = _; rw [valH, valH_hds]
          rw [trimH (eH_dig hu2), hv3] at h3
          have e23 := e2.trans e3
          have hs3 := e23.size
          have hB3 : Below w.heap.size w W3 := hB.trans (e23.mono hsz)
          generalize hy : x + 65536 * R = y at *
          have hyd : y < 65536 * d := by
            have : 65536 * (R + 1) ≤ 65536 * d := Nat.mul_le_mul_left _ hR
            omega
          have hylen : (hds y).length ≤ b.length + 1 := hds_length (by rw [Nat.pow_succ]; omega)
          -- between lo and hi
          refine .mid (α := Nat) (fun hi => [(0, va), (1, vb), (6, .slice (some ⟨g, 0, none⟩) a.length a.length), (9, v3), (10, .int .i64 (i : Nat)), (11, .int .i64 0), (12, .int .i64 (hi : Nat))]) (fun hi W' => W' = W3 ∧ 1 ≤ hi ∧ hi ≤ 65536 ∧ y < hi * d) ?_ ?_
          · refine .seq (.region (.mv rfl rfl (.lenR un_H rfl rfl h3 (.mv rfl rfl (.lenR un_H rfl rfl (hBb hB3) ?_)))))
            by_cases hll : (hds y).length < b.length
            · refine .lssT rfl rfl rfl (by omega) (.nil (.condT rfl (.region (.asg rfl rfl (.nil ?_)))))
              refine ⟨rfl, 1, look_cons rfl (look_cons rfl (look_cons rfl (look_cons rfl (look_cons rfl (look_cons rfl (look_cons rfl look_nil)))))), rfl, Nat.le_refl _, by omega, ?_⟩
              have h1 := hds_lt y
              have h2 : 65536 ^ (hds y).length ≤ 65536 ^ (b.length - 1) := Nat.pow_le_pow_right (by omega) (by omega)
              omega
            · refine .lssF rfl rfl rfl (by omega) (.nil (.condF rfl (.skip ?_)))
              exact ⟨rfl, 65536, look_cons rfl (look_cons rfl (look_cons rfl (look_cons rfl (look_cons rfl (look_cons rfl (look_cons rfl look_nil)))))), rfl, by omega, Nat.le_refl _, hyd⟩
          · rintro hi0 W3' ⟨hW3', hi1, hi2, hyhi⟩
            have hW3' := hW3'.symm
            subst hW3'
            refine .mid (α := Nat) (fun lo => [(0, va), (1, vb), (6, .slice (some ⟨g, 0, none⟩) a.length a.length), (9, v3), (10, .int .i64 (i : Nat)), (11, .int .i64 (lo : Nat))]) (fun lo W' => Ext W3 W' ∧ lo < 65536 ∧ lo = y / d) ?_ ?_
            · refine .block (.loop (α := Nat × Nat) (fun z => [(0, va), (1, vb), (6, .slice (some ⟨g, 0, none⟩) a.length a.length), (9, v3), (10, .int .i64 (i : Nat)), (11, .int .i64 (z.1 : Nat)), (12, .int .i64 (z.2 : Nat))]) (fun z W' => Ext W3 W' ∧ z.1 < z.2 ∧ z.2 ≤ 65536 ∧ z.1 * d ≤ y ∧ y < z.2 * d) (fun z => z.2 - z.1) (0, hi0) ?_ ?_ ?_)
              · exact look_cons rfl (look_cons rfl (look_cons rfl (look_cons rfl (look_cons rfl (look_cons rfl (look_cons rfl look_nil))))))
              · exact ⟨.refl _, hi1, hi2, by show 0 * d ≤ y; omega, hyhi⟩
              · rintro ⟨lo, hi⟩ W4 ⟨e4, hlh, hh, hlo, hhi⟩
                replace e4 : Ext W3 W4 := e4
                replace hlh : lo < hi := hlh
                replace hh : hi ≤ 65536 := hh
                replace hlo : lo * d ≤ y := hlo
                replace hhi : y < hi * d := hhi
                refine .weak [(0, va), (1, vb), (6, .slice (some ⟨g, 0, none⟩) a.length a.length), (9, v3), (10, .int .i64 (i : Nat)), (11, .int .i64 (lo : Nat)), (12, .int .i64 (hi : Nat))] (fun t v h => h) ?_
                have hB4 : Below w.heap.size w W4 := hB3.trans (e4.mono hB3.size)
                have hs4 := e4.size
                refine .seq (.seq (.region (.mv rfl rfl (.mv rfl rfl (.sub rfl rfl rfl ?_)))))
                rw [wI (by omega)]
                by_cases hgo : lo + 1 < hi
                · refine .gtrT rfl rfl rfl (by omega) (.nil (.condT rfl (.skip (.block (.seq (.region (.mv rfl rfl (.mv rfl rfl (.add rfl rfl rfl (.quo rfl rfl rfl (by decide) (.asg rfl rfl (.nil ?_))))))))))))
                  rw [wI (n := (lo : Int) + (hi : Int)) (by omega), show ((lo : Int) + (hi : Int)).tdiv 2 = (((lo + hi) / 2 : Nat) : Int) by rw [← Int.natCast_add]; exact tdiv_nat (lo + hi) 2, wI (by omega)]
                  generalize hmid : (lo + hi) / 2 = mid at *
                  refine .seq (.region (.mv rfl rfl (.mv rfl rfl ?_)))
                  have hbT : eHs.R (fun k => S k ∧ k ≠ g) W4 vb b := eHs.mono (fun k _ hk => ⟨hk.1, by have := hk.2; omega⟩) (hBb hB4)
                  refine .call _ rfl E_ref01_times rfl (ref01_times_c (upT hB4 (by omega)) hbT (by omega) (show mid ≤ 65536 by omega)) fun v5 W5 e5 h5 => .mv rfl rfl ?_
                  rw [hvb] at h5
                  have hml : (hds (d * mid)).length ≤ b.length + 1 := hds_length (by
                    rw [Nat.pow_succ]
                    have : d * mid ≤ d * 65536 := Nat.mul_le_mul_left _ (by omega)
                    omega)
                  refine .call _ rfl E_ref01_cmp rfl (ref01_cmp_c h5 ((h3.ext e4).ext e5) (by omega) (by omega)) fun v6 W6 e6 h6 => ?_
                  subst h6
                  rw [valH_hds, valH_hds, Nat.mul_comm d mid]
                  have e46 := (e4.trans e5).trans e6
                  by_cases hc : mid * d ≤ y
                  · refine .leqT rfl rfl rfl (by unfold cmpN; split <;> (try split) <;> omega) (.nil (.condT rfl (.region (.mv rfl rfl (.asg rfl rfl (.nil ?_))))))
                    exact ⟨rfl, (mid, hi), look_cons rfl (look_cons rfl (look_cons rfl (look_cons rfl (look_cons rfl (look_cons rfl (look_cons rfl look_nil)))))), ⟨e46, by show mid < hi; omega, hh, hc, hhi⟩, by show hi - mid < hi - lo; omega⟩
                  · refine .leqF rfl rfl rfl (by unfold cmpN; rw [if_neg (by omega), if_pos (by omega)]; decide) (.nil (.condF rfl (.region (.mv rfl rfl (.asg rfl rfl (.nil ?_))))))
                    exact ⟨rfl, (lo, mid), look_cons rfl (look_cons rfl (look_cons rfl (look_cons rfl (look_cons rfl (look_cons rfl (look_cons rfl look_nil)))))), ⟨e46, by show lo < mid; omega, by show mid ≤ 65536; omega, hlo, by show y < mid * d; omega⟩, by show mid - lo < hi - lo; omega⟩
                · refine .gtrF rfl rfl rfl (by omega) (.nil (.condF rfl (.exit ?_)))
                  refine ⟨rfl, lo, look_cons rfl (look_cons rfl (look_cons rfl (look_cons rfl (look_cons rfl (look_cons rfl look_nil))))), e4, by show lo < 65536; omega, ?_⟩
                  have h1 : hi = lo + 1 := by omega
                  rw [h1] at hhi
                  symm
                  exact (Nat.div_eq_iff (by omega)).2 ⟨by omega, by rw [Nat.add_mul] at hhi; omega⟩
            · rintro lo W4 ⟨e4, hlo, hlod⟩
              have hB4 : Below w.heap.size w W4 := hB3.trans (e4.mono hB3.size)
              have hs4 := e4.size
              have hbT : eHs.R (fun k => S k ∧ k ≠ g) W4 vb b := eHs.mono (fun k _ hk => ⟨hk.1, by have := hk.2; omega⟩) (hBb hB4)
              refine .region (.mv rfl rfl (.mv rfl rfl (.mv rfl rfl (.mv rfl rfl (.mv rfl rfl (.mv rfl rfl ?_))))))
              refine .call _ rfl E_ref01_times rfl (ref01_times_c (upT hB4 (by omega)) hbT (by omega) (show lo ≤ 65536 by omega)) fun v5 W5 e5 h5 => ?_
              rw [hvb] at h5
              have e45 := e4.trans e5
              have hB5 : Below w.heap.size w W5 := hB3.trans (e45.mono hB3.size)
              have hs5 := e5.size
              have hdl : d * lo ≤ y := by rw [hlod]; exact Nat.mul_div_le y d
              refine .call _ rfl E_ref01_sub rfl (ref01_sub_c (upT hB5 (by omega)) (h3.ext e45) h5 (by omega) (by rw [valH_hds, valH_hds]; exact hdl)) fun v6 W6 e6 h6 => ?_
              rw [valH_hds, valH_hds] at h6
              have hmod : y - d * lo = y % d := by rw [hlod]; have := Nat.div_add_mod y d; omega
              rw [hmod] at h6
              have e36 := e45.trans e6
              have hB6 : Below w.heap.size w W6 := hB3.trans (e36.mono hB3.size)
              have eW6 := e23.trans e36
              refine .ixB (i := i) un_H ty_int rfl rfl rfl (by omega) ?_
              refine .storeF (E := eH) (i := i) (z := lo) (by decide) ty_int rfl rfl (hF.ext eW6) rfl (by omega) (Nat.zero_add _) ⟨rfl, hlo⟩ fun W7 hF7 u7 => .asg rfl rfl (.nil ?_)
              refine .region (.mv rfl rfl (.sub rfl rfl rfl (.asg rfl rfl (.nil ?_))))
              rw [wI (by omega)]
              refine ⟨rfl, (i, l.set i lo, v6), look_cons rfl (look_cons rfl (look_cons rfl (look_cons rfl (look_cons rfl look_nil)))), ⟨u7.below hB6 (by omega), by show i ≤ a.length; omega, hF7, by show (l.set i _).length = _; simpa using hl, ?_, ?_⟩, by show i < i + 1; omega⟩
              · show valH ((l.set i lo).drop i) = valH (a.drop i) / d
                rw [valH_set_drop (by omega), hst.1, hlod]
              · show eHs.R _ W7 v6 (hds (valH (a.drop i) % d))
                rw [hst.2]
                exact ER.upd eHs h6 u7 (fun h => h.2 rfl)
    · rintro ⟨l, u⟩ W ⟨hB, hF, hl, hq, hu⟩
      replace hF : FB eH 3 S W g l := hF
      replace hl : l.length = a.length := hl
      replace hq : valH l = m / d := hq
      replace hu : eHs.R (fun k => S k ∧ k ≠ g) W u (hds (m % d)) := hu
      refine .seq (.region (.mv rfl rfl ?_))
      refine .call _ rfl E_ref01_trim rfl (ref01_trim_c (hout hF hl)) fun v2 W2 e2 h2 => .mv rfl rfl (.asg rfl rfl (.asg rfl rfl (.nil (.ret ?_))))
      rw [trimH (FBH_dig hF), hq] at h2
      exact .plain [_, _] Tryz.results129 ⟨rfl, rfl, trivial⟩ ⟨hB.trans (e2.mono hB.size), v2, u, rfl, h2, eHs.mono (fun k _ hk => hk.1) (ER.ext eHs hu e2)⟩
end Go.Proofs.YtgghedhmjhaieaaGreat

namespace Go.Kx
theorem sg_neg (n : Bool) (v : Nat) : sg (!n) v = -(sg n v) := by cases n <;> simp [sg]
theorem sg_mulX (m n : Bool) (u v : Nat) : sg (m != n) (u * v) = sg m u * sg n v := by cases m <;> cases n <;> simp [sg, Int.neg_mul, Int.mul_neg]
theorem hds_add_len {A B K : Nat} (h1 : (hds A).length ≤ K) (h2 : (hds B).length ≤ K) : (hds (A + B)).length ≤ K + 1 := by
  have a1 := hds_lt A
  have a2 := hds_lt B
  have b1 : 65536 ^ (hds A).length ≤ 65536 ^ K := Nat.pow_le_pow_right (by omega) h1
  have b2 : 65536 ^ (hds B).length ≤ 65536 ^ K := Nat.pow_le_pow_right (by omega) h2
  exact hds_length (by rw [Nat.pow_succ]; omega)
theorem hds_mul_len (A B : Nat) : (hds (A * B)).length ≤ (hds A).length + (hds B).length := hds_length (by rw [Nat.pow_add]; exact Nat.mul_lt_mul'' (hds_lt A) (hds_lt B))
theorem sign_sg {n : Bool} {v : Nat} (h : v ≠ 0) : (sg n v).sign = if n then -1 else 1 := by
  cases n
  · simp only [sg, Bool.false_eq_true, if_false]; rw [Int.sign_eq_one_of_pos (by omega)]
  · simp only [sg, if_true]; rw [Int.sign_eq_neg_one_of_neg (by omega)]
theorem zval_mk (z : ZV) : zval z = sg z.neg (val z.w) := rfl
theorem hlv_len_le {l : List Nat} {L : Nat} (h : l.length ≤ L) : (hds (val l)).length ≤ 2 * L ∨ ¬ dig l := by
  by_cases hd : dig l
  · left
    have h1 := valH_lt (digH_hlv hd)
    rw [valH_hlv, hlv_length] at h1
    have := hds_length h1
    omega
  · exact .inr hd
end Go.Kx
namespace Go.Proofs.YtgghedhmjhaieaaGreat
open Go Go.Kx Go.RowKit

/-- the digits of an integer's words -/
theorem ref01_hv_c {S : Nat → Prop} {w : World} {v : Value} {l : List Nat} (up : Up S w) (h : eW.R S w v l) (hl : l.length ≤ 1000000000) : CR Tryz.prog 103 #[v] w (eHs.at S (hds (val l))) := by
  have := ref01_halves_c up h (by omega)
  rwa [trimH (digH_hlv (eW_lt h)), valH_hlv] at this
theorem hv_len {S : Nat → Prop} {w : World} {v : Value} {l : List Nat} (h : eW.R S w v l) (hl : l.length ≤ 1000000000) : (hds (val l)).length ≤ 2000000000 := by
  rcases hlv_len_le hl with h' | h'
  · exact h'
  · exact absurd (eW_lt h) h'
theorem hds_val_len {n : Nat} {L : Nat} (h : n < 4294967296 ^ L) : (hds n).length ≤ 2 * L := by
  refine hds_length ?_
  rw [show (65536 : Nat) ^ (2 * L) = 4294967296 ^ L by rw [Nat.pow_mul]]
  exact h

theorem E_ref01_Sign : Ent Tryz.prog 104 := ent_of Tryz.func104 (by kernel_rfl) rfl
theorem ref01_Sign_c {S : Nat → Prop} {w : World} {v : Value} {a : ZV} (up : Up S w) (h : eZ.R S w v a) (hl : a.w.length ≤ 1000000000) : CR Tryz.prog 104 #[v] w (Is (.int .i64 (zval a).sign)) := by
  obtain ⟨s, rfl, hs⟩ := h
  refine enter Tryz.func104 rfl Tryz.ntmps104 rfl ?_
  refine .seq (.region (.box rfl rfl fun w1 b1 n1 => .asg rfl rfl (.nil ?_)))
  obtain ⟨e1, k1, hb1, hs1⟩ := n1
  refine .seq (.seq (.region (.fa fld_Z1 rfl rfl (.ld ty_W rfl rfl k1 rfl ?_))))
  refine .call _ rfl E_ref01_halves rfl (ref01_hv_c (up.ext e1.size) (hs.ext e1) hl) fun v2 w2 e2 h2 => .lenR un_H rfl rfl h2 ?_
  have x2 := e1.trans e2
  by_cases h0 : val a.w = 0
  · rw [h0, hds_zero]
    refine .eqlT rfl rfl rfl rfl (.nil (.condT rfl (.seq (.region (.asg rfl rfl (.nil (.ret ?_)))))))
    refine .plain [_] Tryz.results104 ⟨rfl, trivial⟩ ⟨x2, isI ?_⟩
    rw [zval_mk, h0]; cases a.neg <;> rfl
  · have hne : (hds (val a.w)).length ≠ 0 := fun e => h0 (hds_eq_nil.1 (List.length_eq_zero_iff.1 e))
    refine .eqlF rfl rfl rfl (by omega) (.nil (.condF rfl (.skip ?_)))
    refine .seq (.seq (.region (.fa fld_Z0 rfl rfl (.ld ty_bool rfl rfl (k1.ext e2) rfl (.nil ?_)))))
    have hz : (zval a).sign = if a.neg then -1 else 1 := by rw [zval_mk]; exact sign_sg h0
    cases hn : a.neg with
    | true =>
      rw [hn] at hz
      refine .condT rfl (.seq (.region (.asg rfl rfl (.nil (.ret ?_)))))
      exact .plain [_] Tryz.results104 ⟨rfl, trivial⟩ ⟨x2, isI (by rw [hz]; rfl)⟩
    | false =>
      rw [hn] at hz
      refine .condF rfl (.skip (.seq (.region (.asg rfl rfl (.nil (.ret ?_))))))
      exact .plain [_] Tryz.results104 ⟨rfl, trivial⟩ ⟨x2, isI (by rw [hz]; rfl)⟩

theorem E_ref01_Neg : Ent Tryz.prog 105 := ent_of Tryz.func105 (by kernel_rfl) rfl
theorem ref01_Neg_c {S : Nat → Prop} {w : World} {v : Value} {a : ZV} (up : Up S w) (h : eZ.R S w v a) (hl : a.w.length ≤ 1000000000) : CR Tryz.prog 105 #[v] w (eZ.at S (zc (-zval a))) := by
  obtain ⟨s, rfl, hs⟩ := h
  refine enter Tryz.func105 rfl Tryz.ntmps105 rfl ?_
  refine .seq (.region (.box rfl rfl fun w1 b1 n1 => .alloc rfl zero_Z fun w2 b2 n2 => .nil ?_))
  obtain ⟨e1, k1, hb1, hs1⟩ := n1
  obtain ⟨e2, k2, hb2, hs2⟩ := n2
  have x2 := e1.trans e2
  have k1 := k1.ext e2
  have hS2 : ¬ Sx S w.heap.size w2.heap.size b2 := Sx.no (by omega) (by omega)
  have up2 : Up (Sx S w.heap.size w2.heap.size) w2 := Sx.up up (Nat.le_refl _) x2.size
  have hs2' := (ER.par eW hs w2.heap.size).ext x2
  refine .seq ?_
  refine .par follows 6 [.inl _, .inl (.bool a.neg), .inl _, .inl _, .inl s, .inr (eHs.at (Sx S w.heap.size w2.heap.size) (hds (val a.w)))] [[], [(3, 0)], [(4, 1)], [], [(6, 3)], [(7, 4)]] (by kernel_rfl) ⟨
    fun w e => (v_fa fld_Z0 rfl).ob, fun w e => (v_ld ty_bool rfl (k1.ext e) rfl).ob, fun w e => (v_not rfl).ob, fun w e => (v_fa fld_Z1 rfl).ob, fun w e => (v_ld ty_W rfl (k1.ext e) rfl).ob,
    fun w e => (g_call _ E_ref01_halves rfl (ref01_hv_c (up2.ext e.size) (hs2'.ext e) hl)).ob (st_at _ _ _), trivial⟩ ?_
  intro w3 e3 x5 hx5
  have hlen := hv_len hs hl
  refine .call _ rfl E_ref01_of rfl (ref01_of_c (up2.ext e3.size) hx5 (by omega)) fun v4 w4 e4 h4 => ?_
  rw [valH_hds, sg_neg, ← zval_mk] at h4
  refine .storeA (E := eZ) ty_Z rfl rfl ((k2.ext e3).ext e4) rfl rfl h4 hS2 fun w5 k5 u5 h5 => .nil (.ret ?_)
  exact .cell Tryz.results105 rfl ty_Z rfl rfl k5 h5 ⟨u5.below ((x2.trans e3).trans e4) (by omega), h5.out⟩

theorem E_ref01_Abs : Ent Tryz.prog 108 := ent_of Tryz.func108 (by kernel_rfl) rfl
theorem ref01_Abs_c {S : Nat → Prop} {w : World} {v : Value} {a : ZV} (up : Up S w) (h : eZ.R S w v a) (hl : a.w.length ≤ 1000000000) : CR Tryz.prog 108 #[v] w (eZ.at S (zc (val a.w))) := by
  obtain ⟨s, rfl, hs⟩ := h
  refine enter Tryz.func108 rfl Tryz.ntmps108 rfl ?_
  refine .seq (.region (.box rfl rfl fun w1 b1 n1 => .alloc rfl zero_Z fun w2 b2 n2 => .nil ?_))
  obtain ⟨e1, k1, hb1, hs1⟩ := n1
  obtain ⟨e2, k2, hb2, hs2⟩ := n2
  have x2 := e1.trans e2
  have k1 := k1.ext e2
  have hS2 : ¬ Sx S w.heap.size w2.heap.size b2 := Sx.no (by omega) (by omega)
  have up2 : Up (Sx S w.heap.size w2.heap.size) w2 := Sx.up up (Nat.le_refl _) x2.size
  have hs2' := (ER.par eW hs w2.heap.size).ext x2
  refine .seq (.region (.fa fld_Z1 rfl rfl (.ld ty_W rfl rfl k1 rfl ?_)))
  refine .call _ rfl E_ref01_halves rfl (ref01_hv_c up2 hs2' hl) fun v3 w3 e3 h3 => ?_
  have hlen := hv_len hs hl
  refine .call _ rfl E_ref01_of rfl (ref01_of_c (up2.ext e3.size) h3 (by omega)) fun v4 w4 e4 h4 => ?_
  rw [valH_hds] at h4
  refine .storeA (E := eZ) ty_Z rfl rfl ((k2.ext e3).ext e4) rfl rfl h4 hS2 fun w5 k5 u5 h5 => .nil (.ret ?_)
  exact .cell Tryz.results108 rfl ty_Z rfl rfl k5 h5 ⟨u5.below ((x2.trans e3).trans e4) (by omega), h5.out⟩

theorem E_ref01_Mul : Ent Tryz.prog 84 := ent_of Tryz.func84 (by kernel_rfl) rfl
theorem ref01_Mul_c {S : Nat → Prop} {w : World} {va vb : Value} {a b : ZV} (up : Up S w) (ha : eZ.R S w va a) (hb : eZ.R S w vb b) (hla : a.w.length ≤ 1000000000) (hlb : b.w.length ≤ 1000000000) : CR Tryz.prog 84 #[va, vb] w (eZ.at S (zc (zval a * zval b))) := by
  obtain ⟨s, rfl, hs⟩ := ha
  obtain ⟨t, rfl, ht⟩ := hb
  refine enter Tryz.func84 rfl Tryz.ntmps84 rfl ?_
  refine .seq (.region (.box rfl rfl fun w1 b2 n1 => .box rfl rfl fun w2 b3 n2 => .alloc rfl zero_Z fun w3 b4 n3 => .nil ?_))
  obtain ⟨e1, k2, hb2, hs1⟩ := n1
  obtain ⟨e2, k3, hb3, hs2⟩ := n2
  obtain ⟨e3, k4, hb4, hs3⟩ := n3
  have x3 := (e1.trans e2).trans e3
  have k2 := (k2.ext e2).ext e3
  have k3 := k3.ext e3
  have hS4 : ¬ Sx S w.heap.size w3.heap.size b4 := Sx.no (by omega) (by omega)
  have up3 : Up (Sx S w.heap.size w3.heap.size) w3 := Sx.up up (Nat.le_refl _) x3.size
  have hs' := (ER.par eW hs w3.heap.size).ext x3
  have ht' := (ER.par eW ht w3.heap.size).ext x3
  have l1 := hv_len hs hla
  have l2 := hv_len ht hlb
  refine .seq ?_
  refine .par follows 12 [.inl _, .inl (.bool a.neg), .inl _, .inl (.bool b.neg), .inl (.bool (a.neg != b.neg)), .inl _, .inl s, .inr (eHs.at (Sx S w.heap.size w3.heap.size) (hds (val a.w))), .inl _, .inl t, .inr (eHs.at (Sx S w.heap.size w3.heap.size) (hds (val b.w))), .inr (eHs.at (Sx S w.heap.size w3.heap.size) (hds (valH (hds (val a.w)) * valH (hds (val b.w)))))] [[], [(5, 0)], [], [(7, 2)], [(6, 1), (8, 3)], [], [(10, 5)], [(11, 6)], [], [(13, 8)], [(14, 9)], [(12, 7), (15, 10)]] (by kernel_rfl) ⟨
    fun w e => (v_fa fld_Z0 rfl).ob, fun w e => (v_ld ty_bool rfl (k2.ext e) rfl).ob, fun w e => (v_fa fld_Z0 rfl).ob, fun w e => (v_ld ty_bool rfl (k3.ext e) rfl).ob, fun w e => (v_neqB un_bool rfl rfl).ob,
    fun w e => (v_fa fld_Z1 rfl).ob, fun w e => (v_ld ty_W rfl (k2.ext e) rfl).ob, fun w e => (g_call _ E_ref01_halves rfl (ref01_hv_c (up3.ext e.size) (hs'.ext e) hla)).ob (st_at _ _ _),
    fun w e => (v_fa fld_Z1 rfl).ob, fun w e => (v_ld ty_W rfl (k3.ext e) rfl).ob, fun w e => (g_call _ E_ref01_halves rfl (ref01_hv_c (up3.ext e.size) (ht'.ext e) hlb)).ob (st_at _ _ _),
    fun w e x hx y hy => (g_call _ E_ref01_mul rfl (ref01_mul_c (up3.ext e.size) hx hy (by omega) (by omega))).ob (st_at _ _ _), trivial⟩ ?_
  intro w4 e4 x7 hx7 x10 hx10 v5 h5
  rw [valH_hds, valH_hds] at h5
  have l3 := hds_mul_len (val a.w) (val b.w)
  have e45 := e4
  refine .call _ rfl E_ref01_of rfl (ref01_of_c (up3.ext e45.size) h5 (by omega)) fun v6 w6 e6 h6 => ?_
  rw [valH_hds, sg_mulX, ← zval_mk, ← zval_mk] at h6
  have e46 := e45.trans e6
  refine .storeA (E := eZ) ty_Z rfl rfl (k4.ext e46) rfl rfl h6 hS4 fun w7 k7 u7 h7 => .nil (.ret ?_)
  exact .cell Tryz.results84 rfl ty_Z rfl rfl k7 h7 ⟨u7.below (x3.trans e46) (by omega), h7.out⟩

theorem E_ref01_Add : Ent Tryz.prog 88 := ent_of Tryz.func88 (by kernel_rfl) rfl
theorem ref01_Add_c {S : Nat → Prop} {w : World} {va vb : Value} {a b : ZV} (up : Up S w) (ha : eZ.R S w va a) (hb : eZ.R S w vb b) (hla : a.w.length ≤ 1000000000) (hlb : b.w.length ≤ 1000000000) : CR Tryz.prog 88 #[va, vb] w (eZ.at S (zc (zval a + zval b))) := by
  obtain ⟨s, rfl, hs⟩ := ha
  obtain ⟨t, rfl, ht⟩ := hb
  refine enter Tryz.func88 rfl Tryz.ntmps88 rfl ?_
  refine .seq (.region (.box rfl rfl fun w1 b2 n1 => .box rfl rfl fun w2 b3 n2 => .alloc rfl zero_Z fun w3 b4 n3 => .nil ?_))
  obtain ⟨e1, k2, hb2, hs1⟩ := n1
  obtain ⟨e2, k3, hb3, hs2⟩ := n2
  obtain ⟨e3, k4, hb4, hs3⟩ := n3
  have x3 := (e1.trans e2).trans e3
  have k2 := (k2.ext e2).ext e3
  have k3 := k3.ext e3
  have hS4 : ¬ Sx S w.heap.size w3.heap.size b4 := Sx.no (by omega) (by omega)
  have up3 : Up (Sx S w.heap.size w3.heap.size) w3 := Sx.up up (Nat.le_refl _) x3.size
  have hs' := (ER.par eW hs w3.heap.size).ext x3
  have ht' := (ER.par eW ht w3.heap.size).ext x3
  have l1 := hv_len hs hla
  have l2 := hv_len ht hlb
  have hout : ∀ {W : World} {v : Value} {z : ZV}, eZ.R (Sx S w.heap.size w3.heap.size) W v z → eZ.R S W v z := fun h => h.out
  generalize hT : Sx S w.heap.size w3.heap.size = T at *
  refine .seq ?_
  refine .par follows 6 [.inl _, .inl s, .inr (eHs.at T (hds (val a.w))), .inl _, .inl t, .inr (eHs.at T (hds (val b.w)))] [[], [(7, 0)], [(8, 1)], [], [(10, 3)], [(11, 4)]] (by kernel_rfl) ⟨
    fun w e => (v_fa fld_Z1 rfl).ob, fun w e => (v_ld ty_W rfl (k2.ext e) rfl).ob, fun w e => (g_call _ E_ref01_halves rfl (ref01_hv_c (up3.ext e.size) (hs'.ext e) hla)).ob (st_at _ _ _),
    fun w e => (v_fa fld_Z1 rfl).ob, fun w e => (v_ld ty_W rfl (k3.ext e) rfl).ob, fun w e => (g_call _ E_ref01_halves rfl (ref01_hv_c (up3.ext e.size) (ht'.ext e) hlb)).ob (st_at _ _ _), trivial⟩ ?_
  intro w4 e4 x hx y hy
  refine .asg rfl rfl (.asg rfl rfl (.nil ?_))
  have up4 := up3.ext e4.size
  have k2 := k2.ext e4
  have k3 := k3.ext e4
  have k4 := k4.ext e4
  have x4 := x3.trans e4
  have eva := zval_mk a
  have evb := zval_mk b
  generalize val a.w = A at *
  generalize val b.w = B at *
  refine .seq (.seq (.region (.fa fld_Z0 rfl rfl (.ld ty_bool rfl rfl k2 rfl (.fa fld_Z0 rfl rfl (.ld ty_bool rfl rfl k3 rfl (.eqlB un_bool rfl rfl rfl (.nil ?_))))))))
  by_cases hn : a.neg = b.neg
  · rw [show (a.neg == b.neg) = true by simp [hn]]
    refine .condT rfl (.seq ?_)
    refine .par follows 5 [.inl _, .inl (.bool a.neg), .inl _, .inl _, .inr (eHs.at T (hds (valH (hds A) + valH (hds B))))] [[], [(18, 0)], [], [], [(20, 2), (21, 3)]] (by kernel_rfl) ⟨
      fun w e => (v_fa fld_Z0 rfl).ob, fun w e => (v_ld ty_bool rfl (k2.ext e) rfl).ob, fun w e => (v_mv rfl).ob, fun w e => (v_mv rfl).ob,
      fun w e => (g_call _ E_ref01_add rfl (ref01_add_c (up4.ext e.size) (ER.ext eHs hx e) (ER.ext eHs hy e) (by omega) (by omega))).ob (st_at _ _ _), trivial⟩ ?_
    intro w5 e5 z hz
    rw [valH_hds, valH_hds] at hz
    have l3 := hds_add_len l1 l2
    refine .call _ rfl E_ref01_of rfl (ref01_of_c (up4.ext e5.size) hz (by omega)) fun v6 w6 e6 h6 => ?_
    rw [valH_hds] at h6
    have hval : sg a.neg (A + B) = zval a + zval b := by rw [eva, evb, ← hn]; cases a.neg <;> simp [sg] <;> omega
    rw [hval] at h6
    have e56 := e5.trans e6
    refine .storeA (E := eZ) ty_Z rfl rfl (k4.ext e56) rfl rfl h6 hS4 fun w7 k7 u7 h7 => .nil (.ret ?_)
    exact .cell Tryz.results88 rfl ty_Z rfl rfl k7 h7 ⟨u7.below (x4.trans e56) (by omega), hout h7⟩
  · rw [show (a.neg == b.neg) = false by simpa using hn]
    refine .condF rfl (.skip (.seq (.seq (.region (.mv rfl rfl (.mv rfl rfl ?_))))))
    refine .call _ rfl E_ref01_cmp rfl (ref01_cmp_c hx hy (by omega) (by omega)) fun v5 w5 e5 h5 => ?_
    subst h5
    rw [valH_hds, valH_hds]
    have up5 := up4.ext e5.size
    have k2 := k2.ext e5
    have k3 := k3.ext e5
    have k4 := k4.ext e5
    have x5 := x4.trans e5
    have hx5 := ER.ext eHs hx e5
    have hy5 := ER.ext eHs hy e5
    by_cases hge : B ≤ A
    · refine .geqT rfl rfl rfl (by unfold cmpN; split <;> (try split) <;> omega) (.nil (.condT rfl (.seq ?_)))
      refine .par follows 5 [.inl _, .inl (.bool a.neg), .inl _, .inl _, .inr (eHs.at T (hds (valH (hds A) - valH (hds B))))] [[], [(28, 0)], [], [], [(30, 2), (31, 3)]] (by kernel_rfl) ⟨
        fun w e => (v_fa fld_Z0 rfl).ob, fun w e => (v_ld ty_bool rfl (k2.ext e) rfl).ob, fun w e => (v_mv rfl).ob, fun w e => (v_mv rfl).ob,
        fun w e => (g_call _ E_ref01_sub rfl (ref01_sub_c (up5.ext e.size) (ER.ext eHs hx5 e) (ER.ext eHs hy5 e) (by omega) (by rw [valH_hds, valH_hds]; exact hge))).ob (st_at _ _ _), trivial⟩ ?_
      intro w6 e6 z hz
      rw [valH_hds, valH_hds] at hz
      have l3 : (hds (A - B)).length ≤ 2000000000 := Nat.le_trans (hds_len_mono (by omega)) l1
      refine .call _ rfl E_ref01_of rfl (ref01_of_c (up5.ext e6.size) hz (by omega)) fun v7 w7 e7 h7 => ?_
      rw [valH_hds] at h7
      have hval : sg a.neg (A - B) = zval a + zval b := by
        rw [eva, evb]
        cases h1 : a.neg <;> cases h2 : b.neg <;> rw [h1, h2] at hn <;> first | exact absurd rfl hn | (simp [sg]; omega)
      rw [hval] at h7
      have e67 := e6.trans e7
      refine .storeA (E := eZ) ty_Z rfl rfl (k4.ext e67) rfl rfl h7 hS4 fun w8 k8 u8 h8 => .nil (.ret ?_)
      exact .cell Tryz.results88 rfl ty_Z rfl rfl k8 h8 ⟨u8.below (x5.trans e67) (by omega), hout h8⟩
    · refine .geqF rfl rfl rfl (by unfold cmpN; rw [if_pos (by omega)]; decide) (.nil (.condF rfl (.skip (.seq ?_))))
      refine .par follows 5 [.inl _, .inl (.bool b.neg), .inl _, .inl _, .inr (eHs.at T (hds (valH (hds B) - valH (hds A))))] [[], [(34, 0)], [], [], [(36, 2), (37, 3)]] (by kernel_rfl) ⟨
        fun w e => (v_fa fld_Z0 rfl).ob, fun w e => (v_ld ty_bool rfl (k3.ext e) rfl).ob, fun w e => (v_mv rfl).ob, fun w e => (v_mv rfl).ob,
        fun w e => (g_call _ E_ref01_sub rfl (ref01_sub_c (up5.ext e.size) (ER.ext eHs hy5 e) (ER.ext eHs hx5 e) (by omega) (by rw [valH_hds, valH_hds]; omega))).ob (st_at _ _ _), trivial⟩ ?_
      intro w6 e6 z hz
      rw [valH_hds, valH_hds] at hz
      have l3 : (hds (B - A)).length ≤ 2000000000 := Nat.le_trans (hds_len_mono (by omega)) l2
      refine .call _ rfl E_ref01_of rfl (ref01_of_c (up5.ext e6.size) hz (by omega)) fun v7 w7 e7 h7 => ?_
      rw [valH_hds] at h7
      have hval : sg b.neg (B - A) = zval a + zval b := by
        rw [eva, evb]
        cases h1 : a.neg <;> cases h2 : b.neg <;> rw [h1, h2] at hn <;> first | exact absurd rfl hn | (simp [sg]; omega)
      rw [hval] at h7
      have e67 := e6.trans e7
      refine .storeA (E := eZ) ty_Z rfl rfl (k4.ext e67) rfl rfl h7 hS4 fun w8 k8 u8 h8 => .nil (.ret ?_)
      exact .cell Tryz.results88 rfl ty_Z rfl rfl k8 h8 ⟨u8.below (x5.trans e67) (by omega), hout h8⟩
end Go.Proofs.YtgghedhmjhaieaaGreat

namespace Go.Kx
theorem gcd_step (a b : Nat) : Nat.gcd b (a % b) = Nat.gcd a b := by rw [Nat.gcd_comm b (a % b), ← Nat.gcd_rec, Nat.gcd_comm]
theorem cmpZ_sign {a b : ZV} (hs : (zval a).sign = (zval b).sign) : cmpI (zval a) (zval b) = if (zval a).sign < 0 then 0 - cmpN (val a.w) (val b.w) else cmpN (val a.w) (val b.w) := by
  have h1 := zval_natAbs a
  have h2 := zval_natAbs b
  generalize zval a = x at *
  generalize zval b = y at *
  rw [← h1, ← h2]
  rcases Int.lt_trichotomy x 0 with h | h | h
  · have e := Int.sign_eq_neg_one_of_neg h
    rw [e] at hs ⊢
    have hy : y < 0 := Int.sign_eq_neg_one_iff_neg.1 hs.symm
    rw [if_pos (by decide)]
    unfold cmpI cmpN
    split <;> split <;> (try split) <;> (try split) <;> omega
  · subst h
    rw [Int.sign_zero] at hs ⊢
    have hy : y = 0 := Int.sign_eq_zero_iff_zero.1 hs.symm
    subst hy
    decide
  · have e := Int.sign_eq_one_of_pos h
    rw [e] at hs ⊢
    have hy : 0 < y := Int.sign_eq_one_iff_pos.1 hs.symm
    rw [if_neg (by decide)]
    unfold cmpI cmpN
    split <;> split <;> (try split) <;> (try split) <;> omega
theorem cmpI_ne {x y : Int} (hs : x.sign ≠ y.sign) : cmpI x y = if x.sign < y.sign then -1 else 1 := by
  have hx := Int.lt_trichotomy x 0
  have hy := Int.lt_trichotomy y 0
  unfold cmpI
  rcases hx with h | h | h <;> rcases hy with h' | h' | h' <;> first
    | (rw [Int.sign_eq_neg_one_of_neg h, Int.sign_eq_neg_one_of_neg h'] at hs; exact absurd rfl hs)
    | (rw [Int.sign_eq_one_of_pos h, Int.sign_eq_one_of_pos h'] at hs; exact absurd rfl hs)
    | (rw [h, h'] at hs; exact absurd rfl hs)
    | (simp only [h, h', Int.sign_eq_neg_one_of_neg, Int.sign_eq_one_of_pos, Int.sign_zero]; (try split) <;> (try split) <;> (try simp_all) <;> omega)
end Go.Kx
namespace Go.Proofs.YtgghedhmjhaieaaGreat
open Go Go.Kx Go.RowKit

theorem E_ref01_Gcd : Ent Tryz.prog 109 := ent_of Tryz.func109 (by kernel_rfl) rfl
theorem ref01_Gcd_c {S : Nat → Prop} {w : World} {va vb : Value} {a b : ZV} (up : Up S w) (ha : eZ.R S w va a) (hb : eZ.R S w vb b) (hla : a.w.length ≤ 1000000000) (hlb : b.w.length ≤ 1000000000) : CR Tryz.prog 109 #[va, vb] w (eZ.at S (zc (Nat.gcd (val a.w) (val b.w) : Nat))) := by
  obtain ⟨s, rfl, hs⟩ := ha
  obtain ⟨t, rfl, ht⟩ := hb
  refine enter Tryz.func109 rfl Tryz.ntmps109 rfl ?_
  refine .seq (.region (.box rfl rfl fun w1 b2 n1 => .box rfl rfl fun w2 b3 n2 => .alloc rfl zero_Z fun w3 b4 n3 => .nil ?_))
  obtain ⟨e1, k2, hb2, hs1⟩ := n1
  obtain ⟨e2, k3, hb3, hs2⟩ := n2
  obtain ⟨e3, k4, hb4, hs3⟩ := n3
  have x3 := (e1.trans e2).trans e3
  have k2 := (k2.ext e2).ext e3
  have k3 := k3.ext e3
  have hS4 : ¬ Sx S w.heap.size w3.heap.size b4 := Sx.no (by omega) (by omega)
  have up3 : Up (Sx S w.heap.size w3.heap.size) w3 := Sx.up up (Nat.le_refl _) x3.size
  have hs' := (ER.par eW hs w3.heap.size).ext x3
  have ht' := (ER.par eW ht w3.heap.size).ext x3
  have l1 := hv_len hs hla
  have l2 := hv_len ht hlb
  have hout : ∀ {W : World} {v : Value} {z : ZV}, eZ.R (Sx S w.heap.size w3.heap.size) W v z → eZ.R S W v z := fun h => h.out
  generalize hT : Sx S w.heap.size w3.heap.size = T at *
  refine .seq ?_
  refine .par follows 6 [.inl _, .inl s, .inr (eHs.at T (hds (val a.w))), .inl _, .inl t, .inr (eHs.at T (hds (val b.w)))] [[], [(9, 0)], [(10, 1)], [], [(12, 3)], [(13, 4)]] (by kernel_rfl) ⟨
    fun w e => (v_fa fld_Z1 rfl).ob, fun w e => (v_ld ty_W rfl (k2.ext e) rfl).ob, fun w e => (g_call _ E_ref01_halves rfl (ref01_hv_c (up3.ext e.size) (hs'.ext e) hla)).ob (st_at _ _ _),
    fun w e => (v_fa fld_Z1 rfl).ob, fun w e => (v_ld ty_W rfl (k3.ext e) rfl).ob, fun w e => (g_call _ E_ref01_halves rfl (ref01_hv_c (up3.ext e.size) (ht'.ext e) hlb)).ob (st_at _ _ _), trivial⟩ ?_
  intro w4 e4 x hx y hy
  refine .asg rfl rfl (.asg rfl rfl (.nil ?_))
  generalize val a.w = A at *
  generalize val b.w = B at *
  refine .mid (α := Value) (fun p => [(4, .pointer (some ⟨b4, 0, none⟩)), (5, p)]) (fun p W => Ext w4 W ∧ eHs.R T W p (hds (Nat.gcd A B))) ?_ ?_
  · refine .block (.loop (α := (Nat × Nat) × Value × Value) (fun p => [(4, .pointer (some ⟨b4, 0, none⟩)), (5, p.2.1), (6, p.2.2)])
      (fun p W => Ext w4 W ∧ eHs.R T W p.2.1 (hds p.1.1) ∧ eHs.R T W p.2.2 (hds p.1.2) ∧ (hds p.1.1).length ≤ 2000000000 ∧ (hds p.1.2).length ≤ 2000000000 ∧ Nat.gcd p.1.1 p.1.2 = Nat.gcd A B) (fun p => p.1.2) ((A, B), x, y) ?_ ?_ ?_)
    · exact look_cons rfl (look_cons rfl (look_cons rfl look_nil))
    · exact ⟨.refl _, hx, hy, l1, l2, rfl⟩
    · rintro ⟨⟨m, n⟩, u, v⟩ W ⟨hW, hu, hv, hm, hn, hg⟩
      replace hW : Ext w4 W := hW
      replace hu : eHs.R T W u (hds m) := hu
      replace hv : eHs.R T W v (hds n) := hv
      replace hm : (hds m).length ≤ 2000000000 := hm
      replace hn : (hds n).length ≤ 2000000000 := hn
      replace hg : Nat.gcd m n = Nat.gcd A B := hg
      refine .weak [(4, .pointer (some ⟨b4, 0, none⟩)), (5, u), (6, v)] (fun t v h => h) ?_
      refine .seq (.seq (.region (.mv rfl rfl (.lenR un_H rfl rfl hv ?_))))
      by_cases h0 : n = 0
      · subst h0
        rw [hds_zero]
        refine .gtrF rfl rfl rfl (by simp) (.nil (.condF rfl (.exit ?_)))
        rw [Nat.gcd_zero_right] at hg
        exact ⟨rfl, u, look_cons rfl (look_cons rfl look_nil), hW, hg ▸ hu⟩
      · have hne : (hds n).length ≠ 0 := fun e => h0 (hds_eq_nil.1 (List.length_eq_zero_iff.1 e))
        refine .gtrT rfl rfl rfl (by omega) (.nil (.condT rfl (.skip (.block (.seq (.region (.mv rfl rfl (.mv rfl rfl ?_))))))))
        refine .call _ rfl E_ref01_div rfl (ref01_div_c ((up3.ext e4.size).ext hW.size) hu hv (by omega) (by omega) h0) fun z W2 f2 h2 => ?_
        obtain ⟨vq, vr, rfl, hq, hr⟩ := h2
        refine .mv rfl rfl (.ext rfl rfl rfl (.ext rfl rfl rfl (.asg rfl rfl (.asg rfl rfl (.nil ?_)))))
        refine .region (.mv rfl rfl (.mv rfl rfl (.asg rfl rfl (.asg rfl rfl (.nil ?_)))))
        have hlt : m % n < n := Nat.mod_lt _ (by omega)
        exact ⟨rfl, ((n, m % n), v, vr), look_cons rfl (look_cons rfl (look_cons rfl look_nil)), ⟨hW.trans f2, ER.ext eHs hv f2, hr, hn, Nat.le_trans (hds_len_mono (Nat.le_of_lt hlt)) hn, (gcd_step m n).trans hg⟩, hlt⟩
  · rintro u W ⟨hW, hu⟩
    have e5 := e4.trans hW
    have lg : (hds (Nat.gcd A B)).length ≤ 2000000001 := by
      have h1 : Nat.gcd A B ≤ A + B := by
        rcases Nat.eq_zero_or_pos A with h | h
        · subst h; rw [Nat.gcd_zero_left]; omega
        · have := Nat.gcd_le_left B h; omega
      exact Nat.le_trans (hds_len_mono h1) (hds_add_len l1 l2)
    refine .seq (.region (.mv rfl rfl ?_))
    refine .call _ rfl E_ref01_of rfl (ref01_of_c (up3.ext e5.size) hu (by omega)) fun v6 w6 e6 h6 => ?_
    rw [valH_hds] at h6
    have e56 := e5.trans e6
    refine .storeA (E := eZ) ty_Z rfl rfl (k4.ext e56) rfl rfl h6 hS4 fun w7 k7 u7 h7 => .nil (.ret ?_)
    exact .cell Tryz.results109 rfl ty_Z rfl rfl k7 h7 ⟨u7.below (x3.trans e56) (by omega), hout h7⟩

theorem E_ref01_Div : Ent Tryz.prog 110 := ent_of Tryz.func110 (by kernel_rfl) rfl
theorem ref01_Div_c {S : Nat → Prop} {w : World} {va vb : Value} {a b : ZV} (up : Up S w) (ha : eZ.R S w va a) (hb : eZ.R S w vb b) (hla : a.w.length ≤ 1000000000) (hlb : b.w.length ≤ 1000000000) (hb0 : zval b ≠ 0) :
    CR Tryz.prog 110 #[va, vb] w (Three (eZ.at S (zc (zval a / zval b))) (eZ.at S (zc (zval a % zval b))) (Is (.int .i64 0))) := by
  obtain ⟨s, rfl, hs⟩ := ha
  obtain ⟨t, rfl, ht⟩ := hb
  refine enter Tryz.func110 rfl Tryz.ntmps110 rfl ?_
  refine .seq (.region (.box rfl rfl fun w1 b2 n1 => .box rfl rfl fun w2 b3 n2 => .alloc rfl zero_Z fun w3 b4 n3 => .alloc rfl zero_Z fun w4 b5 n4 => .asg rfl rfl (.nil ?_)))
  obtain ⟨e1, k2, hb2, hs1⟩ := n1
  obtain ⟨e2, k3, hb3, hs2⟩ := n2
  obtain ⟨e3, k4, hb4, hs3⟩ := n3
  obtain ⟨e4, k5, hb5, hs4⟩ := n4
  have x4 := ((e1.trans e2).trans e3).trans e4
  have k2 := ((k2.ext e2).ext e3).ext e4
  have k3 := (k3.ext e3).ext e4
  have k4 := k4.ext e4
  have hS4 : ¬ Sx S w.heap.size w4.heap.size b4 := Sx.no (by omega) (by omega)
  have hS5 : ¬ Sx S w.heap.size w4.heap.size b5 := Sx.no (by omega) (by omega)
  have hne : b5 ≠ b4 := by omega
  have up4 : Up (Sx S w.heap.size w4.heap.size) w4 := Sx.up up (Nat.le_refl _) x4.size
  have hs' := (ER.par eW hs w4.heap.size).ext x4
  have ht' := (ER.par eW ht w4.heap.size).ext x4
  have l1 := hv_len hs hla
  have l2 := hv_len ht hlb
  have hout : ∀ {W : World} {v : Value} {z : ZV}, eZ.R (Sx S w.heap.size w4.heap.size) W v z → eZ.R S W v z := fun h => h.out
  generalize hT : Sx S w.heap.size w4.heap.size = T at *
  refine .seq ?_
  refine .par follows 6 [.inl _, .inl s, .inr (eHs.at T (hds (val a.w))), .inl _, .inl t, .inr (eHs.at T (hds (val b.w)))] [[], [(11, 0)], [(12, 1)], [], [(14, 3)], [(15, 4)]] (by kernel_rfl) ⟨
    fun w e => (v_fa fld_Z1 rfl).ob, fun w e => (v_ld ty_W rfl (k2.ext e) rfl).ob, fun w e => (g_call _ E_ref01_halves rfl (ref01_hv_c (up4.ext e.size) (hs'.ext e) hla)).ob (st_at _ _ _),
    fun w e => (v_fa fld_Z1 rfl).ob, fun w e => (v_ld ty_W rfl (k3.ext e) rfl).ob, fun w e => (g_call _ E_ref01_halves rfl (ref01_hv_c (up4.ext e.size) (ht'.ext e) hlb)).ob (st_at _ _ _), trivial⟩ ?_
  intro w5 e5 x hx y hy
  refine .asg rfl rfl (.asg rfl rfl (.nil ?_))
  have hB0 : 0 < val b.w := by
    rcases Nat.eq_zero_or_pos (val b.w) with h | h
    · exact absurd (by unfold zval sg; rw [h]; simp) hb0
    · exact h
  have eva := zval_mk a
  have evb := zval_mk b
  generalize val a.w = A at *
  generalize val b.w = B at *
  have hne0 : (hds B).length ≠ 0 := fun e => by have := hds_eq_nil.1 (List.length_eq_zero_iff.1 e); omega
  refine .seq (.seq (.region (.mv rfl rfl (.lenR un_H rfl rfl hy (.eqlF rfl rfl rfl (by omega) (.nil (.condF rfl (.skip ?_))))))))
  have up5 := up4.ext e5.size
  refine .seq (.region (.mv rfl rfl (.mv rfl rfl ?_)))
  refine .call _ rfl E_ref01_div rfl (ref01_div_c up5 hx hy (by omega) (by omega) (by omega)) fun z w6 e6 h6 => ?_
  obtain ⟨vq, vr, rfl, hq, hr⟩ := h6
  refine .mv rfl rfl (.ext rfl rfl rfl (.ext rfl rfl rfl (.asg rfl rfl (.asg rfl rfl (.nil ?_)))))
  have e56 := e5.trans e6
  have x6 := x4.trans e56
  have up6 := up5.ext e6.size
  have k2 := k2.ext e56
  have k3 := k3.ext e56
  have k4 := k4.ext e56
  have k5 := k5.ext e56
  have hy6 := ER.ext eHs hy e6
  have lq : (hds (A / B)).length ≤ 2000000000 := Nat.le_trans (hds_len_mono (Nat.div_le_self _ _)) l1
  have lr : (hds (A % B)).length ≤ 2000000000 := Nat.le_trans (hds_len_mono (Nat.mod_le _ _)) l1
  refine .mid (α := (Nat × Nat) × Value × Value) (fun z => [(2, .pointer (some ⟨b2, 0, none⟩)), (3, .pointer (some ⟨b3, 0, none⟩)), (4, .pointer (some ⟨b4, 0, none⟩)), (5, .pointer (some ⟨b5, 0, none⟩)), (9, z.2.1), (10, z.2.2)])
    (fun z W => Ext w6 W ∧ eHs.R T W z.2.1 (hds z.1.1) ∧ eHs.R T W z.2.2 (hds z.1.2) ∧ (hds z.1.1).length ≤ 2000000002 ∧ (hds z.1.2).length ≤ 2000000002 ∧ zval a / zval b = sg (a.neg != b.neg) z.1.1 ∧ zval a % zval b = sg false z.1.2) ?_ ?_
  · refine .seq (.region (.fa fld_Z0 rfl rfl (.ld ty_bool rfl rfl k2 rfl (.mv rfl rfl ?_))))
    cases hn : a.neg with
    | false =>
      refine .gs rfl rfl rfl rfl rfl (.gs rfl rfl rfl rfl rfl (.gs rfl rfl rfl rfl rfl (.pick rfl rfl rfl (.nil (.condF rfl (.skip ?_))))))
      obtain ⟨d1, d2⟩ := divmod_pos (p := false) (q := b.neg) (A := A) hB0 (.inl rfl)
      refine ⟨rfl, ((A / B, A % B), vq, vr), look_cons rfl (look_cons rfl (look_cons rfl (look_cons rfl (look_cons rfl (look_cons rfl look_nil))))), .refl _, hq, hr, Nat.le_trans lq (by omega), Nat.le_trans lr (by omega), ?_, ?_⟩
      · rw [eva, evb, hn]; exact d1
      · rw [eva, evb, hn]; exact d2
    | true =>
      refine .gr rfl rfl rfl rfl (.mv rfl rfl (.gr rfl rfl rfl rfl (.lenR un_H rfl rfl hr (.gr rfl rfl rfl rfl ?_))))
      by_cases h0 : A % B = 0
      · rw [h0, hds_zero]
        refine .gtrF rfl rfl rfl (by simp) (.pick rfl rfl rfl (.nil (.condF rfl (.skip ?_))))
        obtain ⟨d1, d2⟩ := divmod_pos (p := true) (q := b.neg) (A := A) hB0 (.inr h0)
        refine ⟨rfl, ((A / B, A % B), vq, vr), look_cons rfl (look_cons rfl (look_cons rfl (look_cons rfl (look_cons rfl (look_cons rfl look_nil))))), .refl _, hq, hr, Nat.le_trans lq (by omega), Nat.le_trans lr (by omega), ?_, ?_⟩
        · rw [eva, evb, hn]; exact d1
        · rw [eva, evb, hn]; exact d2
      · have hne : (hds (A % B)).length ≠ 0 := fun e => h0 (hds_eq_nil.1 (List.length_eq_zero_iff.1 e))
        refine .gtrT rfl rfl rfl (by omega) (.pick rfl rfl rfl (.nil (.condT rfl (.seq (.region (.mv rfl rfl (.bsl _ rfl rfl bsl_H1 fun w7 b7 n7 => ?_)))))))
        have hd1 : digH [1] := by intro x hx; simp at hx; omega
        have ho : OwnH 3 w6.heap.size w7 (.slice (some ⟨b7, 0, none⟩) 1 1) [1] := OwnH.lit (l := [1]) n7 (Nat.le_refl _) hd1 (by simp)
        obtain ⟨e7, _, _, _⟩ := n7
        refine .call _ rfl E_ref01_add rfl (ref01_add_c (S := T) (up6.ext e7.size) (ER.ext eHs hq e7) (ho.toR up6) (by omega) (by simp)) fun v8 w8 e8 h8 => .asg rfl rfl (.nil ?_)
        rw [valH_hds, show valH [1] = 1 by rfl] at h8
        have e78 := e7.trans e8
        refine .region (.mv rfl rfl (.mv rfl rfl ?_))
        have hm := Nat.mod_lt A hB0
        refine .call _ rfl E_ref01_sub rfl (ref01_sub_c (S := T) (up6.ext e78.size) (ER.ext eHs hy6 e78) (ER.ext eHs hr e78) (by omega) (by rw [valH_hds, valH_hds]; omega)) fun v9 w9 e9 h9 => .asg rfl rfl (.nil ?_)
        rw [valH_hds, valH_hds] at h9
        obtain ⟨d1, d2⟩ := divmod_neg (q := b.neg) (A := A) hB0 (by omega)
        refine ⟨rfl, ((A / B + 1, B - A % B), v8, v9), look_cons rfl (look_cons rfl (look_cons rfl (look_cons rfl (look_cons rfl (look_cons rfl look_nil))))), e78.trans e9, ER.ext eHs h8 e9, h9, ?_, ?_, ?_, ?_⟩
        · exact Nat.le_trans (hds_add_len lq (B := 1) (Nat.le_trans (hds_length (L := 1) (by decide)) (by omega))) (by omega)
        · exact Nat.le_trans (hds_len_mono (Nat.sub_le _ _)) (by omega)
        · rw [eva, evb, hn]; exact d1
        · rw [eva, evb, hn]; exact d2
  · rintro ⟨⟨q, r⟩, vq, vr⟩ W ⟨hW, hq, hr, lq, lr, d1, d2⟩
    replace hW : Ext w6 W := hW
    replace hq : eHs.R T W vq (hds q) := hq
    replace hr : eHs.R T W vr (hds r) := hr
    replace lq : (hds q).length ≤ 2000000002 := lq
    replace lr : (hds r).length ≤ 2000000002 := lr
    replace d1 : zval a / zval b = sg (a.neg != b.neg) q := d1
    replace d2 : zval a % zval b = sg false r := d2
    refine .weak [(2, .pointer (some ⟨b2, 0, none⟩)), (3, .pointer (some ⟨b3, 0, none⟩)), (4, .pointer (some ⟨b4, 0, none⟩)), (5, .pointer (some ⟨b5, 0, none⟩)), (9, vq), (10, vr)] (fun t v h => h) ?_
    have k2 := k2.ext hW
    have k3 := k3.ext hW
    have k4 := k4.ext hW
    have k5 := k5.ext hW
    have upW := up6.ext hW.size
    refine .seq (.region (.fa fld_Z0 rfl rfl (.ld ty_bool rfl rfl k2 rfl (.fa fld_Z0 rfl rfl (.ld ty_bool rfl rfl k3 rfl (.neqB un_bool rfl rfl rfl (.mv rfl rfl ?_)))))))
    refine .call _ rfl E_ref01_of rfl (ref01_of_c upW hq (by omega)) fun v7 w7 e7 h7 => .mv rfl rfl ?_
    rw [valH_hds, ← d1] at h7
    refine .call _ rfl E_ref01_of rfl (ref01_of_c (upW.ext e7.size) (ER.ext eHs hr e7) (by omega)) fun v8 w8 e8 h8 => ?_
    rw [valH_hds, ← d2] at h8
    have e78 := e7.trans e8
    refine .storeA (E := eZ) ty_Z rfl rfl (k4.ext e78) rfl rfl (ER.ext eZ h7 e8) hS4 fun w9 k9 u9 h9 => ?_
    refine .storeA (E := eZ) ty_Z rfl rfl ((k5.ext e78).upd u9 hne) rfl rfl (ER.upd eZ h8 u9 hS4) hS5 fun w10 k10 u10 h10 => .asg rfl rfl (.nil (.ret ?_))
    exact .plain [_, _, _] Tryz.results110 ⟨⟨_, rfl, load_cell (E := eZ) ty_Z rfl rfl (k9.upd u10 (Ne.symm hne)) (ER.upd eZ h9 u10 hS5)⟩, ⟨_, rfl, load_cell (E := eZ) ty_Z rfl rfl k10 h10⟩, rfl, trivial⟩
      ⟨u10.below (u9.below ((x6.trans hW).trans e78) (by omega)) (by omega), _, _, _, rfl, hout (ER.upd eZ h9 u10 hS5), hout h10, rfl⟩

theorem E_ref01_Cmp : Ent Tryz.prog 111 := ent_of Tryz.func111 (by kernel_rfl) rfl
theorem ref01_Cmp_c {S : Nat → Prop} {w : World} {va vb : Value} {a b : ZV} (up : Up S w) (ha : eZ.R S w va a) (hb : eZ.R S w vb b) (hla : a.w.length ≤ 1000000000) (hlb : b.w.length ≤ 1000000000) : CR Tryz.prog 111 #[va, vb] w (Is (.int .i64 (cmpI (zval a) (zval b)))) := by
  have ha0 := ha
  have hb0 := hb
  obtain ⟨s, rfl, hs⟩ := ha
  obtain ⟨t, rfl, ht⟩ := hb
  refine enter Tryz.func111 rfl Tryz.ntmps111 rfl ?_
  refine .seq (.region (.box rfl rfl fun w1 b2 n1 => .box rfl rfl fun w2 b3 n2 => .asg rfl rfl (.nil ?_)))
  obtain ⟨e1, k2, hb2, hs1⟩ := n1
  obtain ⟨e2, k3, hb3, hs2⟩ := n2
  have x2 := e1.trans e2
  have k2 := k2.ext e2
  have up2 := up.ext x2.size
  have ha2 := ER.ext eZ ha0 x2
  have hb2' := ER.ext eZ hb0 x2
  have eva := zval_mk a
  have evb := zval_mk b
  refine .seq (.seq ?_)
  refine .par follows 5 [.inl (.agg #[.bool a.neg, s]), .inl (.int .i64 (zval a).sign), .inl (.agg #[.bool b.neg, t]), .inl (.int .i64 (zval b).sign), .inl (.bool ((zval a).sign != (zval b).sign))] [[], [(6, 0)], [], [(8, 2)], [(7, 1), (9, 3)]] (by kernel_rfl) ⟨
    fun w e => (v_ldA ty_Z rfl (k2.ext e) rfl).ob, fun w e => g_call _ E_ref01_Sign rfl (ref01_Sign_c (up2.ext e.size) (ER.ext eZ ha2 e) hla),
    fun w e => (v_ldA ty_Z rfl (k3.ext e) rfl).ob, fun w e => g_call _ E_ref01_Sign rfl (ref01_Sign_c (up2.ext e.size) (ER.ext eZ hb2' e) hlb), fun w e => (v_neq rfl rfl).ob, trivial⟩ ?_
  intro w3 e3
  have x3 := x2.trans e3
  have up3 := up2.ext e3.size
  have k2 := k2.ext e3
  have k3 := k3.ext e3
  have ha3 := ER.ext eZ ha2 e3
  have hb3 := ER.ext eZ hb2' e3
  by_cases hsg : (zval a).sign = (zval b).sign
  · rw [show ((zval a).sign != (zval b).sign) = false by simpa using hsg]
    refine .nil (.condF rfl (.skip (.seq ?_)))
    have hs' := ER.ext eW hs x3
    have ht' := ER.ext eW ht x3
    have l1 := hv_len hs hla
    have l2 := hv_len ht hlb
    have hc := cmpZ_sign hsg
    refine .par follows 7 [.inl _, .inl s, .inr (eHs.at S (hds (val a.w))), .inl _, .inl t, .inr (eHs.at S (hds (val b.w))), .inl (.int .i64 (cmpN (valH (hds (val a.w))) (valH (hds (val b.w)))))] [[], [(16, 0)], [(17, 1)], [], [(19, 3)], [(20, 4)], [(18, 2), (21, 5)]] (by kernel_rfl) ⟨
      fun w e => (v_fa fld_Z1 rfl).ob, fun w e => (v_ld ty_W rfl (k2.ext e) rfl).ob, fun w e => (g_call _ E_ref01_halves rfl (ref01_hv_c (up3.ext e.size) (hs'.ext e) hla)).ob (st_at _ _ _),
      fun w e => (v_fa fld_Z1 rfl).ob, fun w e => (v_ld ty_W rfl (k3.ext e) rfl).ob, fun w e => (g_call _ E_ref01_halves rfl (ref01_hv_c (up3.ext e.size) (ht'.ext e) hlb)).ob (st_at _ _ _),
      fun w e x hx y hy => g_call _ E_ref01_cmp rfl (ref01_cmp_c hx hy (by omega) (by omega)), trivial⟩ ?_
    intro w4 e4 x hx y hy
    rw [valH_hds, valH_hds]
    refine .asg rfl rfl (.nil (.seq (.seq (.region (.ldA ty_Z rfl rfl (k2.ext e4) rfl ?_)))))
    refine .call _ rfl E_ref01_Sign rfl (ref01_Sign_c (up3.ext e4.size) (ER.ext eZ ha3 e4) hla) fun v5 w5 e5 h5 => ?_
    subst h5
    have x5 := (x3.trans e4).trans e5
    by_cases hn : (zval a).sign < 0
    · rw [if_pos hn] at hc
      refine .lssT rfl rfl rfl hn (.nil (.condT rfl (.seq (.region (.mv rfl rfl (.neg rfl rfl (.asg rfl rfl (.nil (.ret ?_)))))))))
      exact .plain [_] Tryz.results111 ⟨rfl, trivial⟩ ⟨x5, isI (by rw [hc, wI (by unfold cmpN; split <;> (try split) <;> omega)])⟩
    · rw [if_neg hn] at hc
      refine .lssF rfl rfl rfl hn (.nil (.condF rfl (.skip (.seq (.region (.mv rfl rfl (.asg rfl rfl (.nil (.ret ?_)))))))))
      exact .plain [_] Tryz.results111 ⟨rfl, trivial⟩ ⟨x5, isI (by rw [hc])⟩
  · rw [show ((zval a).sign != (zval b).sign) = true by simpa using hsg]
    refine .nil (.condT rfl (.seq (.seq ?_)))
    have hc := cmpI_ne hsg
    refine .par follows 5 [.inl (.agg #[.bool a.neg, s]), .inl (.int .i64 (zval a).sign), .inl (.agg #[.bool b.neg, t]), .inl (.int .i64 (zval b).sign), .inl (.bool (decide ((zval a).sign < (zval b).sign)))] [[], [(11, 0)], [], [(13, 2)], [(12, 1), (14, 3)]] (by kernel_rfl) ⟨
      fun w e => (v_ldA ty_Z rfl (k2.ext e) rfl).ob, fun w e => g_call _ E_ref01_Sign rfl (ref01_Sign_c (up3.ext e.size) (ER.ext eZ ha3 e) hla),
      fun w e => (v_ldA ty_Z rfl (k3.ext e) rfl).ob, fun w e => g_call _ E_ref01_Sign rfl (ref01_Sign_c (up3.ext e.size) (ER.ext eZ hb3 e) hlb), fun w e => (v_lss rfl rfl).ob, trivial⟩ ?_
    intro w4 e4
    by_cases hn : (zval a).sign < (zval b).sign
    · rw [if_pos hn] at hc
      rw [show decide ((zval a).sign < (zval b).sign) = true by simpa using hn]
      refine .nil (.condT rfl (.seq (.region (.asg rfl rfl (.nil (.ret ?_))))))
      exact .plain [_] Tryz.results111 ⟨rfl, trivial⟩ ⟨x3.trans e4, isI (by rw [hc])⟩
    · rw [if_neg hn] at hc
      rw [show decide ((zval a).sign < (zval b).sign) = false by simpa using hn]
      refine .nil (.condF rfl (.skip (.seq (.region (.asg rfl rfl (.nil (.ret ?_)))))))
      exact .plain [_] Tryz.results111 ⟨rfl, trivial⟩ ⟨x3.trans e4, isI (by rw [hc])⟩
end Go.Proofs.YtgghedhmjhaieaaGreat
