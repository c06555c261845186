/-
  Potentials on a network: plain. Package island: Of Package island: Of Package island: Refs, Connected The Laplacian, line by line: plain. Packages whole, frac, vec: Abs, New, Sub Package shift: equations Package shift: a column of factors Package shift: transpose The equations of a network have one solution: plain. Package shift: Factors, Between, Flows law 05: the numbers of the examples law 05: alive; SolveExamples law 18: Long, three, fifths, told, awake What shift factors satisfy: plain. law 18: ShiftZero Shift factors are small: plain. append(l, s...): the elements of another slice. law 18: ShiftBound law 18: ShiftBetween What is handed in, opened: networks.
-/
import Derived.Test.YthjnmfemndfijaaGreatG5
import Derived.Lib.SmallJoins
set_option linter.unusedVariables false
namespace Go.Kx
def dl (a b : Nat) : Rat := if a = b then 1 else 0
theorem dl_self (a : Nat) : dl a a = 1 := if_pos rfl
theorem dl_ne {a b : Nat} (h : a ≠ b) : dl a b = 0 := if_neg h
theorem sum_dl {n a : Nat} (f : Nat → Rat) (h : a < n) : sumN n (fun b => f b * dl a b) = f a := by
 rw [sumN_single (i := a) (fun k _ hne => by rw [dl_ne (Ne.symm hne), Rat.mul_zero]), if_pos h, dl_self, Rat.mul_one]
theorem rat_sq (x : Rat) : 0 ≤ x * x := by
 rcases Rat.le_total (a := 0) (b := x) with h | h
 ·exact Rat.mul_nonneg h h
 ·have h2 : 0 ≤ -x := by grind
  have := Rat.mul_nonneg h2 h2
  grind
theorem rat_sq0 {x : Rat} (h : x * x = 0) : x = 0 := by
 rcases Rat.mul_eq_zero.1 h with h | h <;> exact h
theorem sumN_nonneg {n : Nat} {f : Nat → Rat} (h : ∀ k, k < n → 0 ≤ f k) : 0 ≤ sumN n f := by
 induction n with
 | zero => exact Rat.le_refl
 | succ n ih =>
  have h1 := ih fun k hk => h k (by omega)
  have h2 := h n (by omega)
  unfold sumN
  grind
theorem sumN_le {n : Nat} {f g : Nat → Rat} (h : ∀ k, k < n → f k ≤ g k) : sumN n f ≤ sumN n g := by
 have := sumN_nonneg (n := n) (f := fun k => g k - f k) fun k hk => by have := h k hk; grind
 rw [sumN_sub] at this
 grind
theorem sumN_term {n : Nat} {f : Nat → Rat} (h : ∀ k, k < n → 0 ≤ f k) {j : Nat} (hj : j < n) : f j ≤ sumN n f := by
 have h1 : sumN n (fun k => if k = j then f j else 0) = f j := by
  rw [sumN_single (i := j) (fun k _ hne => if_neg hne), if_pos hj, if_pos rfl]
 rw [← h1]
 refine sumN_le fun k hk => ?_
 have := h k hk
 by_cases e : k = j
 ·subst e; rw [if_pos rfl]; exact Rat.le_refl
 ·rw [if_neg e]; exact this
theorem sumN_all0 {n : Nat} {f : Nat → Rat} (h : ∀ k, k < n → 0 ≤ f k) (h0 : sumN n f = 0) {j : Nat} (hj : j < n) : f j = 0 := by
 have h1 := sumN_term h hj
 have h2 := h j hj
 rw [h0] at h1
 exact Rat.le_antisymm h1 h2
structure Nw where
 B : Nat
 M : Nat
 F : Nat → Nat
 T : Nat → Nat
 g : Nat → Rat
structure Nw.Ok (n : Nw) : Prop where
 f : ∀ k, k < n.M → n.F k < n.B
 t : ∀ k, k < n.M → n.T k < n.B
 p : ∀ k, k < n.M → 0 ≤ n.g k
namespace Nw
section
variable (n : Nw)
def inc (k b : Nat) : Rat := dl (n.F k) b - dl (n.T k) b
def fl (θ : Nat → Rat) (k : Nat) : Rat := n.g k * (θ (n.F k) - θ (n.T k))
def off (f : Nat → Rat) (b : Nat) : Rat := sumN n.M fun k => n.inc k b * f k
def lap (θ : Nat → Rat) (b : Nat) : Rat := n.off (n.fl θ) b
def Lm (b c : Nat) : Rat := sumN n.M fun k => n.g k * (n.inc k b * n.inc k c)
def clo (D : Nat → Prop) : Prop := ∀ k, k < n.M → n.g k ≠ 0 → (D (n.F k) ↔ D (n.T k))
/-- the least bus of the island, with the first lines -/
def rootTo : Nat → Nat → Nat
 | 0, b => b
 | j + 1, b => if n.g j = 0 then rootTo j b else if rootTo j b = max (rootTo j (n.F j)) (rootTo j (n.T j)) then min (rootTo j (n.F j)) (rootTo j (n.T j)) else rootTo j b
def root (b : Nat) : Nat := n.rootTo n.M b
def gm (b c : Nat) : Rat := if n.root b = b then dl b c else n.Lm b c
end
section
variable {n : Nw} {θ φ f : Nat → Rat}
theorem sum_inc (ok : n.Ok) {k : Nat} (hk : k < n.M) (φ : Nat → Rat) : sumN n.B (fun b => φ b * n.inc k b) = φ (n.F k) - φ (n.T k) := by
 have e : sumN n.B (fun b => φ b * n.inc k b) = sumN n.B (fun b => φ b * dl (n.F k) b - φ b * dl (n.T k) b) := sumN_congr fun b _ => by unfold inc; grind
 rw [e, sumN_sub, sum_dl φ (ok.f k hk), sum_dl φ (ok.t k hk)]
theorem green (ok : n.Ok) (φ f : Nat → Rat) : sumN n.B (fun b => φ b * n.off f b) = sumN n.M fun k => (φ (n.F k) - φ (n.T k)) * f k := by
 have e : sumN n.B (fun b => φ b * n.off f b) = sumN n.B (fun b => sumN n.M fun k => φ b * n.inc k b * f k) := sumN_congr fun b _ => by
  unfold off
  rw [← sumN_mul]
  exact sumN_congr fun k _ => by grind
 rw [e, sumN_swap]
 refine sumN_congr fun k hk => ?_
 rw [sumN_mulr, sum_inc ok hk]
theorem lap_sum (ok : n.Ok) (θ : Nat → Rat) (b : Nat) : sumN n.B (fun c => n.Lm b c * θ c) = n.lap θ b := by
 have e : sumN n.B (fun c => n.Lm b c * θ c) = sumN n.B (fun c => sumN n.M fun k => n.g k * n.inc k b * (θ c * n.inc k c)) := sumN_congr fun c _ => by
  unfold Lm
  rw [← sumN_mulr]
  exact sumN_congr fun k _ => by grind
 rw [e, sumN_swap]
 unfold lap off
 refine sumN_congr fun k hk => ?_
 rw [sumN_mul, sum_inc ok hk]
 unfold fl
 grind
/-- no power, no differences -/
theorem rigid (ok : n.Ok) {D : Nat → Prop} (hD : n.clo D) (h : ∀ b, b < n.B → D b → θ b * n.lap θ b = 0) : ∀ k, k < n.M → n.g k ≠ 0 → D (n.F k) → θ (n.F k) = θ (n.T k) := by
 classical
 have e := green ok (fun b => if D b then θ b else 0) (n.fl θ)
 have e0 : sumN n.B (fun b => (if D b then θ b else 0) * n.off (n.fl θ) b) = 0 := sumN_zero' fun b hb => by
  by_cases hd : D b
  ·rw [if_pos hd]; exact h b hb hd
  ·rw [if_neg hd, Rat.zero_mul]
 rw [e0] at e
 have hterm : ∀ k, k < n.M → ((if D (n.F k) then θ (n.F k) else 0) - (if D (n.T k) then θ (n.T k) else 0)) * n.fl θ k = if D (n.F k) then n.g k * ((θ (n.F k) - θ (n.T k)) * (θ (n.F k) - θ (n.T k))) else 0 := by
  intro k hk
  by_cases hg : n.g k = 0
  ·unfold fl
   rw [hg]
   split <;> grind
  ·have := hD k hk hg
   by_cases hd : D (n.F k)
   ·rw [if_pos hd, if_pos (this.1 hd), if_pos hd]
    unfold fl
    grind
   ·rw [if_neg hd, if_neg (fun x => hd (this.2 x)), if_neg hd]
    grind
 intro k hk hg hd
 have hn : ∀ k, k < n.M → 0 ≤ ((if D (n.F k) then θ (n.F k) else 0) - (if D (n.T k) then θ (n.T k) else 0)) * n.fl θ k := fun k hk => by
  rw [hterm k hk]
  split
  ·exact Rat.mul_nonneg (ok.p k hk) (rat_sq _)
  ·exact Rat.le_refl
 have h0 := sumN_all0 hn e.symm hk
 rw [hterm k hk, if_pos hd] at h0
 rcases Rat.mul_eq_zero.1 h0 with h0 | h0
 ·exact absurd h0 hg
 ·have := rat_sq0 h0
  grind
/-- what no line sees is the same all over an island -/
theorem root_eq {θ : Nat → Rat} : ∀ j, (∀ k, k < j → n.g k ≠ 0 → θ (n.F k) = θ (n.T k)) → ∀ b, θ (n.rootTo j b) = θ b
 | 0, _, b => rfl
 | j + 1, h, b => by
  have ih := root_eq j fun k hk => h k (by omega)
  unfold rootTo
  split
  ·exact ih b
  ·rename_i hg
   split
   ·rename_i e
    have h1 := h j (by omega) hg
    have hF := ih (n.F j)
    have hT := ih (n.T j)
    have hb := ih b
    have h2 : θ (max (n.rootTo j (n.F j)) (n.rootTo j (n.T j))) = θ (n.F j) := by
     rcases Nat.le_total (n.rootTo j (n.F j)) (n.rootTo j (n.T j)) with h | h
     ·rw [Nat.max_eq_right h, hT, h1]
     ·rw [Nat.max_eq_left h, hF]
    have h3 : θ (min (n.rootTo j (n.F j)) (n.rootTo j (n.T j))) = θ (n.F j) := by
     rcases Nat.le_total (n.rootTo j (n.F j)) (n.rootTo j (n.T j)) with h | h
     ·rw [Nat.min_eq_left h, hF]
     ·rw [Nat.min_eq_right h, hT, h1]
    rw [h3, ← h2, ← e, hb]
   ·exact ih b
theorem rootTo_le : ∀ j b, n.rootTo j b ≤ b
 | 0, b => Nat.le_refl b
 | j + 1, b => by
  have ih := rootTo_le j
  have := ih b
  unfold rootTo
  split
  ·exact this
  ·split
   ·rename_i e; omega
   ·exact this
theorem rootTo_root : ∀ j b, n.rootTo j (n.rootTo j b) = n.rootTo j b
 | 0, b => rfl
 | j + 1, b => by
  have ih := rootTo_root j
  have ib := ih b
  have iF := ih (n.F j)
  have iT := ih (n.T j)
  by_cases hg : n.g j = 0
  ·have e : ∀ b, n.rootTo (j + 1) b = n.rootTo j b := fun b => by rw [rootTo, if_pos hg]
   rw [e, e]; exact ib
  ·have e : ∀ b, n.rootTo (j + 1) b = if n.rootTo j b = max (n.rootTo j (n.F j)) (n.rootTo j (n.T j)) then min (n.rootTo j (n.F j)) (n.rootTo j (n.T j)) else n.rootTo j b := fun b => by rw [rootTo, if_neg hg]
   rw [e b]
   split
   ·rw [e]
    rcases Nat.le_total (n.rootTo j (n.F j)) (n.rootTo j (n.T j)) with h | h
    ·rw [Nat.min_eq_left h, Nat.max_eq_right h, iF]
     split
     ·rfl
     ·rfl
    ·rw [Nat.min_eq_right h, Nat.max_eq_left h, iT]
     split
     ·rfl
     ·rfl
   ·rename_i hne
    rw [e, ib, if_neg hne]
theorem root_le (b : Nat) : n.root b ≤ b := rootTo_le _ b
theorem root_root (b : Nat) : n.root (n.root b) = n.root b := rootTo_root _ b
theorem root_const (h : ∀ k, k < n.M → n.g k ≠ 0 → θ (n.F k) = θ (n.T k)) (b : Nat) : θ (n.root b) = θ b := root_eq _ h b
theorem fl_out {k : Nat} (h : n.g k = 0) : n.fl θ k = 0 := by unfold fl; rw [h, Rat.zero_mul]
/-- the equations with the reference buses have no other solution than nothing -/
theorem ker0 (ok : n.Ok) (h : ∀ b, b < n.B → if n.root b = b then θ b = 0 else n.lap θ b = 0) : ∀ b, b < n.B → θ b = 0 := by
 have hr := rigid (θ := θ) ok (D := fun _ => True) (fun _ _ _ => Iff.rfl) fun b hb _ => by
  have := h b hb
  split at this
  ·rw [this, Rat.zero_mul]
  ·rw [this, Rat.mul_zero]
 intro b hb
 rw [← root_const (fun k hk hg => hr k hk hg trivial) b]
 have hle := root_le (n := n) b
 have := h (n.root b) (by omega)
 rw [if_pos (root_root b)] at this
 exact this
theorem gm_sum (ok : n.Ok) (θ : Nat → Rat) {b : Nat} (hb : b < n.B) : sumN n.B (fun c => n.gm b c * θ c) = if n.root b = b then θ b else n.lap θ b := by
 unfold gm
 split
 ·rw [← sum_dl θ hb]
  exact sumN_congr fun c _ => by grind
 ·exact lap_sum ok θ b
theorem lap_sub (b : Nat) : n.lap (fun c => θ c - φ c) b = n.lap θ b - n.lap φ b := by
 unfold lap off
 rw [← sumN_sub]
 exact sumN_congr fun k _ => by unfold fl; grind
/-- angles are known by their outflow and by the reference buses -/
theorem uniq (ok : n.Ok) (h : ∀ b, b < n.B → if n.root b = b then θ b = φ b else n.lap θ b = n.lap φ b) : ∀ b, b < n.B → θ b = φ b := by
 intro b hb
 have := ker0 (θ := fun c => θ c - φ c) ok (fun b hb => by
  have := h b hb
  split at this
  ·rw [if_pos (by assumption), this]; grind
  ·rw [if_neg (by assumption), lap_sub, this]; grind) b hb
 grind
end
end Nw
end Go.Kx

namespace Go.Kx
open Go Go.RowKit
def ln0 : LnV := ⟨0, 0, 1, 0⟩
/-- the network as numbers -/
def nwOf (n : NtV) (o : List Int) : Nw where
 B := n.b.toNat
 M := n.ls.length
 F := fun k => (n.ls.getD k ln0).f.toNat
 T := fun k => (n.ls.getD k ln0).t.toNat
 g := fun k => if k ∈ oN o then 0 else ((n.ls.getD k ln0).x : Rat)⁻¹
def tabI (n : Nat) (p : Nat → Nat) : List Int := (List.range n).map fun b => ((p b : Nat) : Int)
theorem tabI_length (n : Nat) (p : Nat → Nat) : (tabI n p).length = n := by simp [tabI]
theorem tabI_get {n i : Nat} {p : Nat → Nat} (h : i < n) : (tabI n p)[i]? = some ((p i : Nat) : Int) := by unfold tabI; rw [List.getElem?_map, List.getElem?_range h]; rfl
theorem tabI_set {n i v : Nat} {p : Nat → Nat} : (tabI n p).set i ((v : Nat) : Int) = tabI n fun b => if b = i then v else p b := by
 apply List.ext_getElem?
 intro j
 rw [List.getElem?_set]
 unfold tabI
 rw [List.length_map, List.length_range, List.getElem?_map, List.getElem?_map]
 by_cases hj : i = j
 ·subst hj
  rw [if_pos rfl]
  by_cases h : i < n
  ·rw [if_pos h, List.getElem?_range h]; simp
  ·rw [if_neg h, List.getElem?_eq_none (by simpa using h)]; rfl
 ·rw [if_neg hj]
  by_cases h : j < n
  ·rw [List.getElem?_range h]; simp [Ne.symm hj]
  ·rw [List.getElem?_eq_none (by simpa using h)]; rfl
/-- climbing p leads to R -/
def Clm (B : Nat) (p R : Nat → Nat) : Prop := ∀ b, b < B → p b ≤ b ∧ (p b = b → R b = b) ∧ (p b ≠ b → R b = R (p b))
def Nw.stepR (n : Nw) (R : Nat → Nat) (k : Nat) : Nat → Nat := fun b => if R b = max (R (n.F k)) (R (n.T k)) then min (R (n.F k)) (R (n.T k)) else R b
def Nw.rootF (n : Nw) (l : List Nat) : Nat → Nat := l.foldl n.stepR id
theorem Nw.rootF_snoc (n : Nw) (l : List Nat) (k : Nat) : n.rootF (l ++ [k]) = n.stepR (n.rootF l) k := by unfold Nw.rootF; rw [List.foldl_append]; rfl
theorem Nw.rootF_free {n : Nw} {p : List Nat} : ∀ j, (∀ k, k < j → (n.g k = 0 ↔ k ∈ p)) → n.rootTo j = n.rootF (freeTo p j)
 | 0, _ => rfl
 | j + 1, h => by
  have ih := Nw.rootF_free j fun k hk => h k (by omega)
  have hj := h j (by omega)
  rw [Go.Proofs.YthjnmfemndfijaaGreat.freeTo_succ]
  funext b
  rw [Nw.rootTo]
  by_cases hg : n.g j = 0
  ·rw [if_pos hg, if_pos (hj.1 hg), List.append_nil, ih]
  ·rw [if_neg hg, if_neg (fun h => hg (hj.2 h)), Nw.rootF_snoc, ← ih]; rfl
structure Idm (R : Nat → Nat) : Prop where
 rr : ∀ b, R (R b) = R b
 le : ∀ b, R b ≤ b
theorem Idm.step {n : Nw} {R : Nat → Nat} (h : Idm R) (k : Nat) : Idm (n.stepR R k) := by
 have hF := h.rr (n.F k)
 have hT := h.rr (n.T k)
 unfold Nw.stepR
 generalize R (n.F k) = a at *
 generalize R (n.T k) = c at *
 have hm : R (min a c) = min a c := by
  rcases Nat.le_total a c with h | h
  ·rw [Nat.min_eq_left h, hF]
  ·rw [Nat.min_eq_right h, hT]
 refine ⟨fun b => ?_, fun b => ?_⟩
 ·by_cases hb : R b = max a c
  ·rw [if_pos hb, hm]
   split
   ·rfl
   ·rfl
  ·rw [if_neg hb, h.rr, if_neg hb]
 ·have := h.le b
  split
  ·omega
  ·exact this
theorem Nw.rootF_idm (n : Nw) (l : List Nat) : Idm (n.rootF l) := by
 unfold Nw.rootF
 have : ∀ (l : List Nat) (R : Nat → Nat), Idm R → Idm (l.foldl n.stepR R) := by
  intro l
  induction l with
  | nil => exact fun R h => h
  | cons k l ih => exact fun R h => ih _ (h.step k)
 exact this l id ⟨fun _ => rfl, fun b => Nat.le_refl b⟩
theorem Clm.step {n : Nw} {B k : Nat} {p R : Nat → Nat} (h : Clm B p R) (hi : Idm R) : Clm B (fun b => if b = max (R (n.F k)) (R (n.T k)) then min (R (n.F k)) (R (n.T k)) else p b) (n.stepR R k) := by
 have iF := hi.rr (n.F k)
 have iT := hi.rr (n.T k)
 unfold Nw.stepR
 generalize R (n.F k) = a at *
 generalize R (n.T k) = c at *
 have hM : R (max a c) = max a c := by
  rcases Nat.le_total a c with h | h
  ·rw [Nat.max_eq_right h, iT]
  ·rw [Nat.max_eq_left h, iF]
 have hm : R (min a c) = min a c := by
  rcases Nat.le_total a c with h | h
  ·rw [Nat.min_eq_left h, iF]
  ·rw [Nat.min_eq_right h, iT]
 intro b hb
 obtain ⟨h1, h2, h3⟩ := h b hb
 dsimp only
 by_cases hbM : b = max a c
 ·subst hbM
  rw [if_pos rfl]
  refine ⟨by omega, fun h => ?_, fun h => ?_⟩
  ·rw [hM, if_pos rfl]; exact h
  ·rw [hM, hm, if_pos rfl, if_neg h]
 ·rw [if_neg hbM]
  refine ⟨h1, fun h => ?_, fun h => ?_⟩
  ·rw [h2 h, if_neg hbM]
  ·rw [h3 h]
/-- the number of an island -/
def Nw.lab (n : Nw) (b : Nat) : Nat := ((List.range (n.root b)).filter fun r => decide (n.root r = r)).length
def Nw.refs (n : Nw) : List Nat := (List.range n.B).filter fun r => decide (n.root r = r)
def Nw.cnt (n : Nw) (b : Nat) : Nat := ((List.range b).filter fun r => decide (n.root r = r)).length
theorem Nw.cnt_succ (n : Nw) (b : Nat) : n.cnt (b + 1) = n.cnt b + if n.root b = b then 1 else 0 := by
 unfold Nw.cnt
 rw [List.range_succ, List.filter_append, List.length_append]
 by_cases h : n.root b = b
 ·simp [h]
 ·simp [h]
theorem Nw.cnt_le (n : Nw) (b : Nat) : n.cnt b ≤ b := by
 unfold Nw.cnt
 have := List.length_filter_le (fun r => decide (n.root r = r)) (List.range b)
 simpa using this
theorem Nw.lab_root (n : Nw) {b : Nat} (h : n.root b = b) : n.lab b = n.cnt b := by unfold Nw.lab Nw.cnt; rw [h]
theorem Nw.lab_of (n : Nw) (b : Nat) : n.lab b = n.lab (n.root b) := by unfold Nw.lab; rw [Nw.root_root]
theorem Nw.lab_le (n : Nw) (b : Nat) : n.lab b ≤ b := Nat.le_trans (n.cnt_le _) (Nw.root_le b)
def lnI (l : LnV) : Nat → Int
 | 0 => l.f
 | 1 => l.t
 | 2 => l.x
 | _ => l.c
theorem PtrTo.ln {S : Nat → Prop} {w : World} {p : Addr} {l : LnV} (h : PtrTo eL S w p l) (i : Nat) (hi : i < 4) : PtrTo (eInt .i64) S w (p.add i) (lnI l i) := by
 obtain ⟨e, ⟨rfl, h1, h2, h3, h4⟩, hS, hc⟩ := h
 refine ⟨.int .i64 (lnI l i), ⟨rfl, ?_⟩, by rw [block_add]; exact hS, fun j u hu => ?_⟩
 ·match i with
  | 0 => exact h1
  | 1 => exact h2
  | 2 => exact h3
  | 3 => exact h4
 ·have hj : j = 0 := by
   cases j with
   | zero => rfl
   | succ j => simp [Value.cells] at hu
  subst hj
  rw [add_add]
  refine hc _ u ?_
  match i with
  | 0 => simpa [Value.cells, lnI] using hu
  | 1 => simpa [Value.cells, lnI] using hu
  | 2 => simpa [Value.cells, lnI] using hu
  | 3 => simpa [Value.cells, lnI] using hu
section
variable {P : Program} {σ : Env} {w : World} {d : Option Tmp} {ty : TypeId} {pos : String} {af : Array Edge} {g : Option (Nat × Bool)} {S : Nat → Prop}
theorem ob_faL {s : TypeId} {x : Operand} {i off : Nat} {u : Value} {l : LnV} (hf : fldOf P s i = some off) (hx : ev σ x = some u) (hp : Ptr eL S l u w) (ho : off < 4) : Gv P ⟨d, .fieldAddr s x i, ty, pos, af, g⟩ σ w fun v' w' => Ext w w' ∧ Sp.ok (.inr (Ptr (eInt .i64) S (lnI l off))) v' w' := by
 obtain ⟨p, rfl, hp⟩ := hp
 exact ob_vl (v_faP hf hx) ⟨_, rfl, hp.ln off ho⟩ (fun _ _ _ e ⟨p, h1, h2⟩ => ⟨p, h1, h2.ext e⟩)
end
section
variable {P : Program} {ro : Option Nat} {N : Nat} {ds : List Deferred} {ops : Array Oper} {K : Env → World → Prop} {rest : List Oper} {σ : Env} {w : World} {d : Tmp} {ty : TypeId} {pos : String} {af : Array Edge} {S : Nat → Prop}
end
end Go.Kx
namespace Go.Proofs.YthjnmfemndfijaaGreat
open Go Go.Kx Go.RowKit
/-- what a net that was found good is like -/
structure nwOk (n : NtV) (o : List Int) : Prop where
 b : n.b = ((nwOf n o).B : Nat)
 b1 : 1 ≤ (nwOf n o).B
 b6 : (nwOf n o).B ≤ 6
 m : (nwOf n o).M ≤ 10
 fI : ∀ k, k < (nwOf n o).M → (n.ls.getD k ln0).f = ((nwOf n o).F k : Nat)
 tI : ∀ k, k < (nwOf n o).M → (n.ls.getD k ln0).t = ((nwOf n o).T k : Nat)
 f : ∀ k, k < (nwOf n o).M → (nwOf n o).F k < (nwOf n o).B
 t : ∀ k, k < (nwOf n o).M → (nwOf n o).T k < (nwOf n o).B
 ne : ∀ k, k < (nwOf n o).M → (nwOf n o).F k ≠ (nwOf n o).T k
 x : ∀ k, k < (nwOf n o).M → 1 ≤ (n.ls.getD k ln0).x ∧ (n.ls.getD k ln0).x ≤ 1000
 c : ∀ k, k < (nwOf n o).M → 0 ≤ (n.ls.getD k ln0).c ∧ (n.ls.getD k ln0).c ≤ 1000000
 outs : outsOk n o
theorem nw_ok {n : NtV} {o : List Int} (h : outE n o = 0) : nwOk n o := by
 obtain ⟨hc, ho⟩ := outE_ok h
 obtain ⟨h1, h6, h10, hck⟩ := chkE_ok hc
 have hB : n.b = ((n.b.toNat : Nat) : Int) := by omega
 have hl : ∀ k, k < n.ls.length → ∀ i, i < 5 → ck i n.b (n.ls.getD k ln0) = true := fun k hk => hck k hk _ (getD_get' hk)
 refine ⟨hB, by show 1 ≤ n.b.toNat; omega, by show n.b.toNat ≤ 6; omega, h10, fun k hk => ?_, fun k hk => ?_, fun k hk => ?_, fun k hk => ?_, fun k hk => ?_, fun k hk => ?_, fun k hk => ?_, ho⟩
 all_goals
  have c0 := hl k hk 0 (by decide)
  have c1 := hl k hk 1 (by decide)
  have c2 := hl k hk 2 (by decide)
  have c3 := hl k hk 3 (by decide)
  have c4 := hl k hk 4 (by decide)
  simp [ck] at c0 c1 c2 c3 c4
 ·show (n.ls.getD k ln0).f = (((n.ls.getD k ln0).f.toNat : Nat) : Int)
  simp; omega
 ·show (n.ls.getD k ln0).t = (((n.ls.getD k ln0).t.toNat : Nat) : Int)
  simp; omega
 ·show (n.ls.getD k ln0).f.toNat < n.b.toNat
  simp; omega
 ·show (n.ls.getD k ln0).t.toNat < n.b.toNat
  simp; omega
 ·show (n.ls.getD k ln0).f.toNat ≠ (n.ls.getD k ln0).t.toNat
  simp; omega
 ·simpa using c3
 ·simpa using c4
theorem nwOk.g0 {n : NtV} {o : List Int} (h : nwOk n o) {k : Nat} (hk : k < (nwOf n o).M) : (nwOf n o).g k = 0 ↔ k ∈ oN o := by
 show (if k ∈ oN o then (0 : Rat) else ((n.ls.getD k ln0).x : Rat)⁻¹) = 0 ↔ _
 constructor
 ·intro h0
  by_cases hm : k ∈ oN o
  ·exact hm
  ·rw [if_neg hm] at h0
   have hx := (h.x k hk).1
   have hne : ((n.ls.getD k ln0).x : Rat) ≠ 0 := fun e => by
    have : (n.ls.getD k ln0).x = 0 := by exact_mod_cast e
    omega
   have h2 := Rat.mul_inv_cancel _ hne
   rw [h0, Rat.mul_zero] at h2
   exact absurd h2 (by decide)
 ·intro hm; rw [if_pos hm]
theorem nwOk.ok {n : NtV} {o : List Int} (h : nwOk n o) : (nwOf n o).Ok := by
 refine ⟨h.f, h.t, fun k hk => ?_⟩
 show (0 : Rat) ≤ if k ∈ oN o then (0 : Rat) else ((n.ls.getD k ln0).x : Rat)⁻¹
 split
 ·exact Rat.le_refl
 ·have hx := (h.x k hk).1
  exact Rat.le_of_lt (Rat.inv_pos.2 (by exact_mod_cast (by omega : 0 < (n.ls.getD k ln0).x)))
theorem E_find : Ent Tryz.prog 104 := ent_of Tryz.func104 (by kernel_rfl) rfl
theorem find_c {w : World} {b8 g B b : Nat} {p R : Nat → Nat} (k8 : Blk w b8 41 #[.slice (some ⟨g, 0, none⟩) B B]) (hf : FB (eInt .i64) 3 (fun _ => True) w g (tabI B p)) (hp : Clm B p R) (hb : b < B) :
  CR Tryz.prog 104 #[.int .i64 (b : Nat), .pointer (some ⟨b8, 0, none⟩)] w (Is (.int .i64 (R b : Nat))) := by
 refine enter Tryz.func104 rfl Tryz.ntmps104 rfl ?_
 refine .seq (.region (.asg rfl rfl (.nil (.scope (.seq (.label (.seq ?_)))))))
 refine .block (.loop (α := Nat) (fun x => [(0, .int .i64 (x : Nat)), (1, .pointer (some ⟨b8, 0, none⟩))]) (fun x W => W = w ∧ x < B ∧ R x = R b) (fun x => x) b ?_ ?_ ?_)
 ·exact look_cons rfl (look_cons rfl look_nil)
 ·exact ⟨rfl, hb, rfl⟩
 rintro x W ⟨rfl, hx, hR⟩
 obtain ⟨h1, h2, h3⟩ := hp x hx
 refine .block (.seq (.region (.ld ty_I rfl rfl k8 rfl (.mv rfl rfl (.ixB (i := x) un_I ty_I1 rfl rfl rfl hx (.ldF (E := eInt .i64) (i := x) (by decide) ty_I1 rfl rfl (Nat.zero_add _) hf (tabI_get hx) fun e he => .asg rfl rfl (.nil (.seq (.region (.mv rfl rfl (.nil ?_)))))))))))
 obtain ⟨rfl, _⟩ := he
 refine .block (.seq (.region (.mv rfl rfl ?_)))
 by_cases hpx : p x = x
 ·refine .eqlT rfl rfl rfl (by omega) (.asg rfl rfl (.nil (.condT rfl (.exit (.seq (.region (.mv rfl rfl (.asg rfl rfl (.nil (.ret ?_))))))))))
  exact .plain [_] Tryz.results104 ⟨rfl, trivial⟩ ⟨Ext.refl _, by rw [← hR, h2 hpx]; rfl⟩
 ·refine .eqlF rfl rfl rfl (by omega) (.asg rfl rfl (.nil (.condF rfl (.region (.mv rfl rfl (.asg rfl rfl (.nil ?_)))))))
  exact ⟨rfl, p x, look_cons rfl (look_cons rfl look_nil), ⟨rfl, by omega, by rw [← h3 hpx]; exact hR⟩, by omega⟩
end Go.Proofs.YthjnmfemndfijaaGreat

namespace Go.Proofs.YthjnmfemndfijaaGreat
open Go Go.Kx Go.RowKit
theorem inL_get {n : NtV} {o : List Int} {i : Nat} (hi : i < (inL n o).length) : (pInts (inL n o))[i]? = some (((inL n o).getD i 0 : Nat) : Int) ∧ (inL n o).getD i 0 < n.ls.length ∧ (inL n o).getD i 0 ∉ oN o := by
 have key : ∀ k, k ∈ inL n o → k < n.ls.length ∧ k ∉ oN o := fun k hk => by
  unfold inL freeTo at hk
  rw [List.mem_filter] at hk
  exact ⟨List.mem_range.1 hk.1, by simpa using hk.2⟩
 obtain ⟨h1, h2⟩ := key _ (getD_mem hi)
 exact ⟨by rw [List.getElem?_map, getD_get' (z := 0) hi]; rfl, h1, h2⟩
theorem fil_get {B i j : Nat} {f : Nat → Int} (hj : j < B) (hi : j < i) : (fil B i f 0)[j]? = some (f j) := by
 unfold fil
 rw [List.getElem?_map, List.getElem?_range hj]
 simp [hi]
theorem E_island_Of : Ent Tryz.prog 40 := ent_of Tryz.func40 (by kernel_rfl) rfl
theorem island_Of_c {S : Nat → Prop} {w : World} {vn vo : Value} {n : NtV} {o : List Int} (up : Up S w) (hn : eN.R S w vn n) (ho : eI.R S w vo o) :
  CR Tryz.prog 40 #[vn, vo] w (Two (eI.at S (if outE n o = 0 then tabI (nwOf n o).B (nwOf n o).lab else [])) (Is (.int .i64 (outE n o)))) := by
 obtain ⟨s, rfl, hs, hb⟩ := hn
 have hn : eN.R S w (.agg #[.int .i64 n.b, s]) n := ⟨s, rfl, hs, hb⟩
 refine enter Tryz.func40 rfl Tryz.ntmps40 rfl ?_
 refine .seq (.region (.box rfl rfl fun w1 b2 n1 => .asg rfl rfl (.asg rfl rfl (.nil ?_))))
 obtain ⟨e1, k2, hb2, hs1⟩ := n1
 refine .seq (.region (.ldA ty_N rfl rfl k2 rfl (.mv rfl rfl ?_)))
 refine .call _ rfl E_net_In rfl (net_In_c (up.ext e1.size) (hn.ext e1) (ho.ext e1)) fun v2 w2 e2 h2 => ?_
 obtain ⟨vl, ve, rfl, hl, he⟩ := h2
 replace he : ve = .int .i64 (outE n o) := he
 subst he
 have x2 := e1.trans e2
 refine .mv rfl rfl (.ext rfl rfl rfl (.ext rfl rfl rfl (.asg rfl rfl (.asg rfl rfl (.nil (.seq (.seq (.region (.mv rfl rfl ?_)))))))))
 by_cases hE : outE n o = 0
 rotate_left
 ·refine .neqT rfl rfl rfl hE (.nil (.condT rfl (.seq (.region (.mv rfl rfl (.asg rfl rfl (.asg rfl rfl (.nil (.ret ?_)))))))))
  refine .plain [_, _] Tryz.results40 ⟨rfl, rfl, trivial⟩ ⟨x2, _, _, rfl, ?_, rfl⟩
  rw [if_neg hE]; exact RL.nil
 have ok := nw_ok hE
 rw [if_pos hE] at hl ⊢
 have hB6 := ok.b6
 have hM10 : n.ls.length ≤ 10 := ok.m
 have hll := inL_len n o
 generalize hB : (nwOf n o).B = B at *
 refine .neqF rfl rfl rfl hE (.nil (.condF rfl (.skip ?_)))
 have k2 := k2.ext e2
 have hnb := ok.b
 rw [hB] at hnb
 rw [hnb] at k2
 refine .seq (.region (.fa fld_N0 rfl rfl (.ld ty_int rfl rfl k2 rfl ?_)))
 refine .make_ B B un_I info_I rfl (by decide) rfl rfl rfl (Nat.le_refl _) (by omega) (by omega) fun w3 g n3 => ?_
 have f3 : FB (eInt .i64) 3 (fun _ => True) w3 g (List.replicate B 0) := FB.made n3 ⟨rfl, by decide⟩
 obtain ⟨e3, _, hg3, hs3⟩ := n3
 refine .alloc rfl zero_I fun w4 b8 n4 => ?_
 obtain ⟨e4, k8, hb8, hs4⟩ := n4
 refine .store ty_I rfl rfl k8 rfl (by simp [Value.cells]) (by simp [one1, Value.cells]) fun w5 k8 u5 => .nil ?_
 replace k8 : Blk w5 b8 41 #[.slice (some ⟨g, 0, none⟩) B B] := k8
 have hs2 := e2.size
 have hs5 := u5.size
 have x4 := x2.trans (e3.trans e4)
 have x5 : Ext w w5 := u5.below x4 (by omega)
 have x25 : Ext w2 w5 := u5.below (e3.trans e4) (by omega)
 have k2 := k2.ext x25
 have hl := ER.ext eI (ER.lt eI hl) x25
 have hsL := ER.ext eLs (ER.lt eLs hs) x5
 have hupd : ∀ {W W' : World} {l : List Int} {b : Nat}, FB (eInt .i64) 3 (fun _ => True) W g l → Upd W W' b → g ≠ b → FB (eInt .i64) 3 (fun _ => True) W' g l := fun hf u hne => by
  obtain ⟨es, hb, he⟩ := hf
  exact ⟨es, hb.upd u hne, he.1, fun i e x h1 h2 => he.2 i e x h1 h2⟩
 have f5 := hupd (f3.ext e4) u5 (by omega)
 have hgw : w2.heap.size ≤ g := by omega
 have hg8 : g ≠ b8 := by omega
 have hg2 : b2 ≠ g := by omega
 have hw25 : w2.heap.size ≤ w5.heap.size := by omega
 refine .mid (α := Unit) (fun _ => [(2, .pointer (some ⟨b2, 0, none⟩)), (6, vl), (8, .pointer (some ⟨b8, 0, none⟩))]) (fun _ W => Below w2.heap.size w5 W ∧ Blk W b8 41 #[.slice (some ⟨g, 0, none⟩) B B] ∧ FB (eInt .i64) 3 (fun _ => True) W g (tabI B id)) ?_ ?_
 ·refine .seq (.region (.ld ty_I rfl rfl k8 rfl (.len un_I rfl rfl (.mv rfl rfl (.nil ?_)))))
  refine .block (.loop (α := Nat) (fun i => [(2, .pointer (some ⟨b2, 0, none⟩)), (6, vl), (8, .pointer (some ⟨b8, 0, none⟩)), (32, .int .i64 (B : Nat)), (33, .int .i64 (i : Nat))]) (fun i W => Below w2.heap.size w5 W ∧ Blk W b8 41 #[.slice (some ⟨g, 0, none⟩) B B] ∧ i ≤ B ∧ FB (eInt .i64) 3 (fun _ => True) W g (fil B i (fun b => ((b : Nat) : Int)) 0)) (fun i => B - i) 0 ?_ ?_ ?_)
  ·exact look_cons rfl (look_cons rfl (look_cons rfl (look_cons rfl (look_cons rfl look_nil))))
  ·refine ⟨Below.refl _ _, k8, Nat.zero_le _, ?_⟩
   rw [fil_zero]; exact f5
  rintro i W ⟨hW, k8, hi, fb⟩
  refine .seq (.region ?_)
  rcases Nat.lt_or_ge i B with hlt | hge
  rotate_left
  ·refine .lssF rfl rfl rfl (by omega) (.nil (.seq (.condF rfl (.exit ?_))))
   have : i = B := by omega
   subst this
   refine ⟨rfl, (), look_cons rfl (look_cons rfl (look_cons rfl look_nil)), hW, k8, ?_⟩
   rw [fil_all] at fb
   exact fb
  refine .lssT rfl rfl rfl (by omega) (.nil (.seq (.condT rfl (.skip (.seq (.block (.seq (.region (.mv rfl rfl (.asg rfl rfl (.nil (.region (.ld ty_I rfl rfl k8 rfl (.mv rfl rfl (.mv rfl rfl (.ixB (i := i) un_I ty_I1 rfl rfl rfl hlt ?_))))))))))))))))
  refine .storeF (E := eInt .i64) (i := i) (z := ((i : Nat) : Int)) (by decide) ty_I1 rfl rfl fb rfl (by rw [fil_length]; exact hlt) (Nat.zero_add _) ⟨rfl, inI_iff.2 (by omega)⟩ fun W1 f1 u1 => .nil ?_
  refine .region (.add rfl rfl rfl (.mv rfl rfl (.nil ?_)))
  rw [wI (by omega)]
  rw [fil_set] at f1
  exact ⟨rfl, i + 1, look_cons rfl (look_cons rfl (look_cons rfl (look_cons rfl (look_cons rfl look_nil)))), ⟨u1.below hW hgw, k8.upd u1 hg8.symm, hlt, f1⟩, by show B - (i + 1) < B - i; omega⟩
 rintro _ W0 ⟨hW0, k8, fb0⟩
 have hk2 : ∀ {W : World}, Below w2.heap.size w5 W → Blk W b2 40 #[.int .i64 (B : Nat), s] := fun h => (h.block b2 (by omega)).trans k2
 have hlW : ∀ {W : World}, Below w2.heap.size w5 W → eI.R (fun k => S k ∧ k < w2.heap.size) W vl (pInts (inL n o)) := fun h => eI.keep (fun k c t f hk hh => (h.block k hk.2).trans hh) hl
 have hsW : ∀ {W : World}, Below w2.heap.size w5 W → eLs.R (fun k => S k ∧ k < w.heap.size) W s n.ls := fun h => eLs.keep (fun k c t f hk hh => (h.block k (by have := hk.2; have := x2.size; omega)).trans hh) hsL
 refine .seq (.region (.mkf [] [_] rfl rfl rfl rfl (.asg rfl rfl (.nil ?_))))
 refine .mid (α := Nat → Nat) (fun _ => [(2, .pointer (some ⟨b2, 0, none⟩)), (8, .pointer (some ⟨b8, 0, none⟩)), (10, .func (.func 104) #[] #[.pointer (some ⟨b8, 0, none⟩)])]) (fun p W => Below w2.heap.size w5 W ∧ Blk W b8 41 #[.slice (some ⟨g, 0, none⟩) B B] ∧ FB (eInt .i64) 3 (fun _ => True) W g (tabI B p) ∧ Clm B p ((nwOf n o).rootF (inL n o))) ?_ ?_
 ·refine .seq (.region (.mv rfl rfl (.lenR un_I rfl rfl (hlW hW0) (.mv rfl rfl (.nil ?_)))))
  rw [show (pInts (inL n o)).length = (inL n o).length by simp]
  refine .block (.loop (α := Nat × (Nat → Nat)) (fun y => [(2, .pointer (some ⟨b2, 0, none⟩)), (8, .pointer (some ⟨b8, 0, none⟩)), (10, .func (.func 104) #[] #[.pointer (some ⟨b8, 0, none⟩)]), (42, vl), (43, .int .i64 ((inL n o).length : Nat)), (44, .int .i64 (y.1 : Nat))])
   (fun y W => Below w2.heap.size w5 W ∧ Blk W b8 41 #[.slice (some ⟨g, 0, none⟩) B B] ∧ y.1 ≤ (inL n o).length ∧ FB (eInt .i64) 3 (fun _ => True) W g (tabI B y.2) ∧ Clm B y.2 ((nwOf n o).rootF ((inL n o).take y.1))) (fun y => (inL n o).length - y.1) (0, id) ?_ ?_ ?_)
  ·exact look_cons rfl (look_cons rfl (look_cons rfl (look_cons rfl (look_cons rfl (look_cons rfl look_nil)))))
  ·exact ⟨hW0, k8, Nat.zero_le _, fb0, fun b _ => ⟨Nat.le_refl _, fun _ => rfl, fun h => absurd rfl h⟩⟩
  rintro ⟨i, p⟩ W ⟨hW, k8, hi, fb, hc⟩
  replace hW : Below w2.heap.size w5 W := hW
  replace hi : i ≤ (inL n o).length := hi
  replace fb : FB (eInt .i64) 3 (fun _ => True) W g (tabI B p) := fb
  replace hc : Clm B p ((nwOf n o).rootF ((inL n o).take i)) := hc
  refine .seq (.region ?_)
  rcases Nat.lt_or_ge i (inL n o).length with hlt | hge
  rotate_left
  ·refine .lssF rfl rfl rfl (by omega) (.nil (.seq (.condF rfl (.exit ?_))))
   have : i = (inL n o).length := by omega
   subst this
   rw [List.take_of_length_le (Nat.le_refl _)] at hc
   exact ⟨rfl, p, look_cons rfl (look_cons rfl (look_cons rfl look_nil)), hW, k8, fb, hc⟩
  obtain ⟨hgk, hkM, hko⟩ := inL_get hlt
  refine .lssT rfl rfl rfl (by omega) (.nil (.seq (.condT rfl (.skip (.seq (.block (.seq (.region (.ixN (i := i) un_I ty_I1 rfl rfl (hlW hW) rfl hgk fun q hq => .ldE (E := eInt .i64) ty_I1 rfl rfl hq fun e he => .asg rfl rfl (.nil ?_))))))))))
  obtain ⟨rfl, _⟩ := he
  have htk : (inL n o).take (i + 1) = (inL n o).take i ++ [(inL n o).getD i 0] := by rw [List.take_add_one, getD_get' (z := 0) hlt]; rfl
  have hFB := ok.f _ hkM
  have hTB := ok.t _ hkM
  have hFI := ok.fI _ hkM
  have hTI := ok.tI _ hkM
  have hgl : n.ls[(inL n o).getD i 0]? = some (n.ls.getD ((inL n o).getD i 0) ln0) := getD_get' hkM
  have hidm := (nwOf n o).rootF_idm ((inL n o).take i)
  generalize hR : (nwOf n o).rootF ((inL n o).take i) = R at hc hidm
  generalize hk : (inL n o).getD i 0 = k at hgl hFB hTB hFI hTI hkM hko htk
  rw [hB] at hFB hTB
  have hlF := hidm.le ((nwOf n o).F k)
  have hlT := hidm.le ((nwOf n o).T k)
  refine .seq ?_
  refine .par follows 16 [.inl (.func (.func 104) #[] #[.pointer (some ⟨b8, 0, none⟩)]), .inl (.pointer (some ⟨b2, 1, none⟩)), .inl s, .inl (.int .i64 (k : Nat)), .inr (Ptr eL (fun k => S k ∧ k < w.heap.size) (n.ls.getD k ln0)), .inr (Ptr (eInt .i64) (fun k => S k ∧ k < w.heap.size) (n.ls.getD k ln0).f), .inl (.int .i64 ((nwOf n o).F k : Nat)), .inl (.int .i64 (R ((nwOf n o).F k) : Nat)),
   .inl (.func (.func 104) #[] #[.pointer (some ⟨b8, 0, none⟩)]), .inl (.pointer (some ⟨b2, 1, none⟩)), .inl s, .inl (.int .i64 (k : Nat)), .inr (Ptr eL (fun k => S k ∧ k < w.heap.size) (n.ls.getD k ln0)), .inr (Ptr (eInt .i64) (fun k => S k ∧ k < w.heap.size) (n.ls.getD k ln0).t), .inl (.int .i64 ((nwOf n o).T k : Nat)), .inl (.int .i64 (R ((nwOf n o).T k) : Nat))]
   [[], [], [(49, 1)], [], [(50, 2), (51, 3)], [(52, 4)], [(53, 5)], [(48, 0), (54, 6)], [], [], [(57, 9)], [], [(58, 10), (59, 11)], [(60, 12)], [(61, 13)], [(56, 8), (62, 14)]] (by kernel_rfl) ⟨
   fun w e => (v_mv rfl).ob, fun w e => (v_fa fld_N1 rfl).ob, fun w e => (v_ld ty_Ls rfl ((hk2 hW).ext e) rfl).ob, fun w e => (v_mv rfl).ob,
   fun w e => ob_ixN (i := k) un_Ls ty_Ln rfl (ER.ext eLs (hsW hW) e) rfl hgl, fun w e x hx => ob_faL fld_Ln0 rfl hx (by decide), fun w e x hx => by rw [← hFI]; exact ob_ldI ty_I1 rfl hx,
   fun w e => Gv.obIs (g_callv [.int .i64 ((nwOf n o).F k : Nat)] rfl E_find rfl (find_c (k8.ext e) (fb.ext e) hc hFB)),
   fun w e => (v_mv rfl).ob, fun w e => (v_fa fld_N1 rfl).ob, fun w e => (v_ld ty_Ls rfl ((hk2 hW).ext e) rfl).ob, fun w e => (v_mv rfl).ob,
   fun w e => ob_ixN (i := k) un_Ls ty_Ln rfl (ER.ext eLs (hsW hW) e) rfl hgl, fun w e x hx => ob_faL fld_Ln1 rfl hx (by decide), fun w e x hx => by rw [← hTI]; exact ob_ldI ty_I1 rfl hx,
   fun w e => Gv.obIs (g_callv [.int .i64 ((nwOf n o).T k : Nat)] rfl E_find rfl (find_c (k8.ext e) (fb.ext e) hc hTB)), trivial⟩ ?_
  intro W1 f1 _ _ _ _ _ _ _ _
  refine .asg rfl rfl (.asg rfl rfl (.nil (.region (.ld ty_I rfl rfl (k8.ext f1) rfl (.mv rfl rfl (.mv rfl rfl (.max_ rfl rfl rfl (.mv rfl rfl (.mv rfl rfl (.min_ rfl rfl rfl ?_))))))))))
  rw [show max ((R ((nwOf n o).F k) : Nat) : Int) (R ((nwOf n o).T k) : Nat) = ((max (R ((nwOf n o).F k)) (R ((nwOf n o).T k)) : Nat) : Int) by omega, show min ((R ((nwOf n o).F k) : Nat) : Int) (R ((nwOf n o).T k) : Nat) = ((min (R ((nwOf n o).F k)) (R ((nwOf n o).T k)) : Nat) : Int) by omega]
  refine .ixB (i := max (R ((nwOf n o).F k)) (R ((nwOf n o).T k))) un_I ty_I1 rfl rfl rfl (by omega) ?_
  refine .storeF (E := eInt .i64) (i := max (R ((nwOf n o).F k)) (R ((nwOf n o).T k))) (z := ((min (R ((nwOf n o).F k)) (R ((nwOf n o).T k)) : Nat) : Int)) (by decide) ty_I1 rfl rfl (fb.ext f1) rfl (by rw [tabI_length]; omega) (Nat.zero_add _) ⟨rfl, inI_iff.2 (by omega)⟩ fun W2 f2 u2 => .nil ?_
  rw [tabI_set] at f2
  have hW1 := hW.trans (f1.mono (by have := hW.size; omega))
  refine .region (.add rfl rfl rfl (.mv rfl rfl (.nil ?_)))
  rw [wI (by omega)]
  refine ⟨rfl, (i + 1, _), look_cons rfl (look_cons rfl (look_cons rfl (look_cons rfl (look_cons rfl (look_cons rfl look_nil))))), ⟨u2.below hW1 hgw, (k8.ext f1).upd u2 hg8.symm, hlt, f2, ?_⟩, by show (inL n o).length - (i + 1) < (inL n o).length - i; omega⟩
  show Clm B _ ((nwOf n o).rootF ((inL n o).take (i + 1)))
  rw [htk, Nw.rootF_snoc, hR]
  exact hc.step hidm
 rintro p W1 ⟨hW1, k8, fb, hc⟩
 rw [show (nwOf n o).rootF (inL n o) = (nwOf n o).root by
  funext b
  unfold Nw.root
  rw [Nw.rootF_free (p := oN o) _ fun k hk => ok.g0 hk]; rfl] at hc
 have hW1s := hW1.size
 refine .seq (.region (.fa fld_N0 rfl rfl (.ld ty_int rfl rfl (hk2 hW1) rfl ?_)))
 refine .make_ B B un_I info_I rfl (by decide) rfl rfl rfl (Nat.le_refl _) (by omega) (by omega) fun W2 h n2 => ?_
 have f2 : FB (eInt .i64) 3 (fun _ => True) W2 h (List.replicate B 0) := FB.made n2 ⟨rfl, by decide⟩
 obtain ⟨e2', _, hh2, hs2'⟩ := n2
 refine .asg rfl rfl (.nil (.seq (.region (.asg rfl rfl (.nil ?_)))))
 have hgh : g ≠ h := by have := fb.lt; omega
 have k8 := k8.ext e2'
 have h8h : b8 ≠ h := by have := hW1s; omega
 have fb := fb.ext e2'
 have hW2 := hW1.trans (e2'.mono (by omega))
 have hhw : w2.heap.size ≤ h := by omega
 have hupd' : ∀ {W W' : World} {l : List Int}, FB (eInt .i64) 3 (fun _ => True) W g l → Upd W W' h → FB (eInt .i64) 3 (fun _ => True) W' g l := fun hf u => hupd hf u hgh
 refine .seq (.seq (.region (.mv rfl rfl (.len un_I rfl rfl (.mv rfl rfl (.nil ?_))))))
 refine .block (.loop (α := Nat) (fun i => [(8, .pointer (some ⟨b8, 0, none⟩)), (10, .func (.func 104) #[] #[.pointer (some ⟨b8, 0, none⟩)]), (15, .slice (some ⟨h, 0, none⟩) B B), (16, .int .i64 ((nwOf n o).cnt i : Nat)), (77, .int .i64 (B : Nat)), (78, .int .i64 (i : Nat))])
  (fun i W => Below w2.heap.size w5 W ∧ Blk W b8 41 #[.slice (some ⟨g, 0, none⟩) B B] ∧ i ≤ B ∧ FB (eInt .i64) 3 (fun _ => True) W g (tabI B p) ∧ FB (eInt .i64) 3 (fun _ => True) W h (fil B i (fun b => (((nwOf n o).lab b : Nat) : Int)) 0)) (fun i => B - i) 0 ?_ ?_ ?_)
 ·exact look_cons rfl (look_cons rfl (look_cons rfl (look_cons rfl (look_cons rfl (look_cons rfl look_nil)))))
 ·refine ⟨hW2, k8, Nat.zero_le _, fb, ?_⟩
  rw [fil_zero]; exact f2
 rintro i W ⟨hW, k8, hi, fb, fl⟩
 refine .seq (.region ?_)
 rcases Nat.lt_or_ge i B with hlt | hge
 rotate_left
 ·refine .lssF rfl rfl rfl (by omega) (.nil (.seq (.condF rfl (.exit (.seq (.region (.mv rfl rfl (.asg rfl rfl (.asg rfl rfl (.nil (.ret ?_)))))))))))
  have : i = B := by omega
  subst this
  refine .plain [_, _] Tryz.results40 ⟨rfl, rfl, trivial⟩ ⟨Below.trans x5 (hW.mono (by omega)), _, _, rfl, ?_, by rw [hE]⟩
  rw [fil_all] at fl
  have fl' : FB (eInt .i64) 3 S W h (tabI i (nwOf n o).lab) := by
   obtain ⟨es, hb, he⟩ := fl
   exact ⟨es, hb, he.1, fun i e x h1 h2 => he.2 i e x h1 h2⟩
  have := fl'.toR (hsz := by decide) (c := i) (up h (by omega)) (by rw [tabI_length]; omega) (by rw [tabI_length]; omega)
  rw [tabI_length] at this
  exact this
 refine .lssT rfl rfl rfl (by omega) (.nil (.seq (.condT rfl (.skip (.seq (.block (.seq (.region (.mv rfl rfl (.asg rfl rfl (.nil (.seq (.seq (.region (.mv rfl rfl (.mv rfl rfl ?_))))))))))))))))
 refine .callv [.int .i64 (i : Nat)] rfl rfl E_find rfl (find_c k8 fb hc hlt) fun v3 W3 e3 h3 => .asg rfl rfl (.nil (.seq (.region (.mv rfl rfl (.mv rfl rfl ?_)))))
 subst h3
 have hrl := Nw.root_le (n := nwOf n o) i
 have hlb := Nw.lab_le (nwOf n o) i
 have hcl := Nw.cnt_le (nwOf n o) i
 have hcs := Nw.cnt_succ (nwOf n o) i
 have hW3 := hW.trans (e3.mono (by have := hW.size; omega))
 have k8 := k8.ext e3
 have fb := fb.ext e3
 have fl := fl.ext e3
 by_cases hr : (nwOf n o).root i = i
 ·refine .neqF rfl rfl rfl (by omega) (.nil (.condF rfl (.skip (.seq (.region (.mv rfl rfl (.mv rfl rfl (.mv rfl rfl (.ixB (i := i) un_I ty_I1 rfl rfl rfl hlt ?_)))))))))
  refine .storeF (E := eInt .i64) (i := i) (z := (((nwOf n o).lab i : Nat) : Int)) (by decide) ty_I1 rfl rfl fl rfl (by rw [fil_length]; exact hlt) (Nat.zero_add _) ⟨by rw [Nw.lab_root _ hr], inI_iff.2 (by omega)⟩ fun W4 f4 u4 => .nil ?_
  rw [fil_set (f := fun b => (((nwOf n o).lab b : Nat) : Int))] at f4
  refine .region (.mv rfl rfl (.add rfl rfl rfl (.asg rfl rfl (.nil (.region (.add rfl rfl rfl (.mv rfl rfl (.nil ?_))))))))
  rw [wI (by omega), wI (by omega)]
  rw [if_pos hr] at hcs
  exact ⟨rfl, i + 1, look_cons rfl (look_cons rfl (look_cons rfl (look_cons (by rw [hcs]; rfl) (look_cons rfl (look_cons rfl look_nil))))), ⟨u4.below hW3 hhw, k8.upd u4 h8h, hlt, hupd' fb u4, f4⟩, by show B - (i + 1) < B - i; omega⟩
 ·refine .neqT rfl rfl rfl (by omega) (.nil (.condT rfl (.seq (.region (.mv rfl rfl (.mv rfl rfl (.mv rfl rfl (.mv rfl rfl (.ixB (i := (nwOf n o).root i) un_I ty_I1 rfl rfl rfl (by omega) ?_)))))))))
  refine .ldF (E := eInt .i64) (i := (nwOf n o).root i) (by decide) ty_I1 rfl rfl (Nat.zero_add _) fl (fil_get (by omega) (by omega)) fun e he => ?_
  obtain ⟨rfl, _⟩ := he
  refine .ixB (i := i) un_I ty_I1 rfl rfl rfl hlt ?_
  refine .storeF (E := eInt .i64) (i := i) (z := (((nwOf n o).lab i : Nat) : Int)) (by decide) ty_I1 rfl rfl fl rfl (by rw [fil_length]; exact hlt) (Nat.zero_add _) ⟨by rw [Nw.lab_of _ i], inI_iff.2 (by omega)⟩ fun W4 f4 u4 => .nil ?_
  rw [fil_set (f := fun b => (((nwOf n o).lab b : Nat) : Int))] at f4
  refine .exit (.region (.add rfl rfl rfl (.mv rfl rfl (.nil ?_))))
  rw [wI (by omega)]
  rw [if_neg hr, Nat.add_zero] at hcs
  exact ⟨rfl, i + 1, look_cons rfl (look_cons rfl (look_cons rfl (look_cons (by rw [hcs]; rfl) (look_cons rfl (look_cons rfl look_nil))))), ⟨u4.below hW3 hhw, k8.upd u4 h8h, hlt, hupd' fb u4, f4⟩, by show B - (i + 1) < B - i; omega⟩
end Go.Proofs.YthjnmfemndfijaaGreat

namespace Go.Kx
open Go Go.RowKit
theorem rng_pre (P : Nat → Bool) (i : Nat) : ∀ d, ∃ t, (List.range (i + d)).filter P = (List.range i).filter P ++ t
 | 0 => ⟨[], by simp⟩
 | d + 1 => by
  obtain ⟨t, ht⟩ := rng_pre P i d
  rw [show i + (d + 1) = (i + d) + 1 by omega, List.range_succ, List.filter_append, ht, List.append_assoc]
  exact ⟨_, rfl⟩
theorem rng_at {P : Nat → Bool} {r C : Nat} (hr : r < C) (hP : P r = true) : ((List.range C).filter P).getD ((List.range r).filter P).length 0 = r ∧ ((List.range r).filter P).length < ((List.range C).filter P).length := by
 obtain ⟨t, ht⟩ := rng_pre P (r + 1) (C - (r + 1))
 rw [show r + 1 + (C - (r + 1)) = C by omega, List.range_succ, List.filter_append] at ht
 have e : List.filter P [r] = [r] := by simp [hP]
 rw [e] at ht
 rw [ht]
 constructor
 ·rw [List.getD_eq_getElem?_getD, List.append_assoc, List.getElem?_append_right (Nat.le_refl _)]; simp
 ·simp
def Nw.refsTo (n : Nw) (b : Nat) : List Nat := (List.range b).filter fun r => decide (n.root r = r)
theorem Nw.refsTo_len (n : Nw) (b : Nat) : (n.refsTo b).length = n.cnt b := rfl
theorem Nw.refsTo_succ (n : Nw) (b : Nat) : n.refsTo (b + 1) = n.refsTo b ++ if n.root b = b then [b] else [] := by
 unfold Nw.refsTo
 rw [List.range_succ, List.filter_append]
 by_cases h : n.root b = b
 ·simp [h]
 ·simp [h]
theorem Nw.cnt_mono (n : Nw) (a : Nat) : ∀ d, n.cnt a ≤ n.cnt (a + d)
 | 0 => Nat.le_refl _
 | d + 1 => by have := Nw.cnt_mono n a d; have := n.cnt_succ (a + d); rw [show a + (d + 1) = a + d + 1 by omega]; omega
theorem Nw.lab_cnt (n : Nw) (b : Nat) : n.lab b = n.cnt b ↔ n.root b = b := by
 refine ⟨fun h => ?_, fun h => n.lab_root h⟩
 have hle := Nw.root_le (n := n) b
 rcases Nat.lt_or_ge (n.root b) b with hlt | hge
 ·exfalso
  have h1 : n.lab b = n.cnt (n.root b) := rfl
  have h2 := n.cnt_succ (n.root b)
  rw [if_pos (Nw.root_root b)] at h2
  have h3 := n.cnt_mono (n.root b + 1) (b - (n.root b + 1))
  rw [show n.root b + 1 + (b - (n.root b + 1)) = b by omega] at h3
  omega
 ·omega
theorem Nw.refs_lab (n : Nw) {b : Nat} (hb : b < n.B) : n.refs.getD (n.lab b) 0 = n.root b ∧ n.lab b < n.refs.length := by
 have hle := Nw.root_le (n := n) b
 exact rng_at (P := fun r => decide (n.root r = r)) (r := n.root b) (C := n.B) (by omega) (decide_eq_true (Nw.root_root b))
theorem Nw.mem_refs {n : Nw} {r : Nat} : r ∈ n.refs ↔ r < n.B ∧ n.root r = r := by
 unfold Nw.refs
 rw [List.mem_filter, List.mem_range]
 simp
theorem Nw.lab_eq {n : Nw} {a b : Nat} (ha : a < n.B) (hb : b < n.B) : n.lab a = n.lab b ↔ n.root a = n.root b := by
 constructor
 ·intro h
  rw [← (n.refs_lab ha).1, ← (n.refs_lab hb).1, h]
 ·intro h; unfold Nw.lab; rw [h]
end Go.Kx
namespace Go.Proofs.YthjnmfemndfijaaGreat
open Go Go.Kx Go.RowKit
theorem E_island_Refs : Ent Tryz.prog 41 := ent_of Tryz.func41 (by kernel_rfl) rfl
theorem island_Refs_c {S : Nat → Prop} {w : World} {vn vo : Value} {n : NtV} {o : List Int} (up : Up S w) (hn : eN.R S w vn n) (ho : eI.R S w vo o) :
  CR Tryz.prog 41 #[vn, vo] w (Two (eI.at S (if outE n o = 0 then pInts (nwOf n o).refs else [])) (Is (.int .i64 (outE n o)))) := by
 have hvn := shpA (E := eN) rfl hn
 refine enter Tryz.func41 rfl Tryz.ntmps41 rfl ?_
 refine .seq (.region (.box rfl rfl fun w1 b2 n1 => .asg rfl rfl (.asg rfl rfl (.nil ?_))))
 obtain ⟨e1, k2, hb2, hs1⟩ := n1
 refine .seq (.region (.ldA ty_N rfl rfl k2 (eN.csz hn) (.mv rfl rfl ?_)))
 rw [← hvn]
 refine .call _ rfl E_island_Of rfl (island_Of_c (up.ext e1.size) (hn.ext e1) (ho.ext e1)) fun v2 w2 e2 h2 => ?_
 obtain ⟨vl, ve, rfl, hl, he⟩ := h2
 replace he : ve = .int .i64 (outE n o) := he
 subst he
 have x2 := e1.trans e2
 refine .mv rfl rfl (.ext rfl rfl rfl (.ext rfl rfl rfl (.asg rfl rfl (.asg rfl rfl (.nil (.seq (.seq (.region (.mv rfl rfl ?_)))))))))
 by_cases hE : outE n o = 0
 rotate_left
 ·refine .neqT rfl rfl rfl hE (.nil (.condT rfl (.seq (.region (.mv rfl rfl (.asg rfl rfl (.asg rfl rfl (.nil (.ret ?_)))))))))
  refine .plain [_, _] Tryz.results41 ⟨rfl, rfl, trivial⟩ ⟨x2, _, _, rfl, ?_, rfl⟩
  rw [if_neg hE]; exact RL.nil
 have ok := nw_ok hE
 rw [if_pos hE] at hl ⊢
 have hB6 := ok.b6
 refine .neqF rfl rfl rfl hE (.nil (.condF rfl (.skip (.seq (.region (.asg rfl rfl (.nil ?_)))))))
 have hlW : ∀ {W : World}, Below w2.heap.size w2 W → eI.R (fun k => S k ∧ k < w2.heap.size) W vl (tabI (nwOf n o).B (nwOf n o).lab) := fun h => eI.keep (fun k c t f hk hh => (h.block k hk.2).trans hh) (ER.lt eI hl)
 refine .seq (.seq (.region (.mv rfl rfl (.lenR un_I rfl rfl hl (.mv rfl rfl (.nil ?_))))))
 rw [tabI_length]
 refine .block (.loop (α := Nat × Value) (fun y => [(8, y.2), (20, vl), (21, .int .i64 ((nwOf n o).B : Nat)), (22, .int .i64 (y.1 : Nat))]) (fun y W => Below w2.heap.size w2 W ∧ y.1 ≤ (nwOf n o).B ∧ OwnL (eInt .i64) 3 w2.heap.size S W y.2 (pInts ((nwOf n o).refsTo y.1))) (fun y => (nwOf n o).B - y.1) (0, .slice none 0 0) ?_ ?_ ?_)
 ·exact look_cons rfl (look_cons rfl (look_cons rfl (look_cons rfl look_nil)))
 ·exact ⟨Below.refl _ _, Nat.zero_le _, OwnL.nil⟩
 rintro ⟨i, v⟩ W ⟨hW, hi, hown⟩
 replace hW : Below w2.heap.size w2 W := hW
 replace hi : i ≤ (nwOf n o).B := hi
 replace hown : OwnL (eInt .i64) 3 w2.heap.size S W v (pInts ((nwOf n o).refsTo i)) := hown
 refine .seq (.region ?_)
 rcases Nat.lt_or_ge i (nwOf n o).B with hlt | hge
 rotate_left
 ·refine .lssF rfl rfl rfl (by omega) (.nil (.seq (.condF rfl (.exit (.seq (.region (.mv rfl rfl (.asg rfl rfl (.asg rfl rfl (.nil (.ret ?_)))))))))))
  have : i = (nwOf n o).B := by omega
  subst this
  refine .plain [_, _] Tryz.results41 ⟨rfl, rfl, trivial⟩ ⟨x2.trans hW, _, _, rfl, ?_, by rw [hE]⟩
  exact hown.toR (fun k hk => up k (by have := x2.size; omega)) (fun _ h => h)
 refine .lssT rfl rfl rfl (by omega) (.nil (.seq (.condT rfl (.skip (.seq (.block (.seq (.region (.mv rfl rfl (.ixN (i := i) un_I ty_I1 rfl rfl (hlW hW) rfl (tabI_get hlt) fun q hq => .ldE (E := eInt .i64) ty_I1 rfl rfl hq fun e he => .asg rfl rfl (.asg rfl rfl (.nil ?_))))))))))))
 obtain ⟨rfl, _⟩ := he
 have hvl : eI.R (fun k => S k ∨ w2.heap.size ≤ k) W v (pInts ((nwOf n o).refsTo i)) := hown.toR (fun k hk => .inr hk) (fun _ h => .inl h)
 have hcl := (nwOf n o).cnt_le i
 have hlb := (nwOf n o).lab_cnt i
 have hrs := (nwOf n o).refsTo_succ i
 have hlen : (pInts ((nwOf n o).refsTo i)).length = (nwOf n o).cnt i := by simp [Nw.refsTo_len]
 refine .seq (.region (.mv rfl rfl (.mv rfl rfl (.lenR un_I rfl rfl hvl ?_))))
 rw [hlen]
 by_cases hr : (nwOf n o).root i = i
 ·rw [if_pos hr] at hrs
  refine .eqlT rfl rfl rfl (by rw [hlb.2 hr]) (.nil (.condT rfl (.region (.mv rfl rfl (.mv rfl rfl (.bsl _ rfl rfl bsl_I1 fun W1 by_ ny => ?_))))))
  obtain ⟨ey, ky, hby, hsy⟩ := ny
  have hW1 := hW.trans (ey.mono hW.size)
  refine .gv rfl rfl (g_appL (E := eInt .i64) (base := w2.heap.size) (n := ((i : Nat) : Int)) (e := .int .i64 (i : Nat)) (by decide) un_I info_I rfl rfl rfl (hown.ext ey) ky ⟨rfl, inI_iff.2 (by omega)⟩ (by rw [hlen]; omega) (by decide) hW1.size) ?_
  rintro v8 W8 ⟨ho8, hg8⟩
  refine .asg rfl rfl (.nil (.region (.add rfl rfl rfl (.mv rfl rfl (.nil ?_)))))
  rw [wI (by omega)]
  refine ⟨rfl, (i + 1, v8), look_cons rfl (look_cons rfl (look_cons rfl (look_cons rfl look_nil))), ⟨(hown.ext ey).below hg8 hW1 hW1.size, hlt, ?_⟩, by show (nwOf n o).B - (i + 1) < (nwOf n o).B - i; omega⟩
  show OwnL (eInt .i64) 3 w2.heap.size S W8 v8 (pInts ((nwOf n o).refsTo (i + 1)))
  rw [hrs]
  unfold pInts
  rw [List.map_append]
  exact ho8
 ·rw [if_neg hr, List.append_nil] at hrs
  refine .eqlF rfl rfl rfl (by intro e; exact hr (hlb.1 (by omega))) (.nil (.condF rfl (.skip (.region (.add rfl rfl rfl (.mv rfl rfl (.nil ?_)))))))
  rw [wI (by omega)]
  refine ⟨rfl, (i + 1, v), look_cons rfl (look_cons rfl (look_cons rfl (look_cons rfl look_nil))), ⟨hW, hlt, ?_⟩, by show (nwOf n o).B - (i + 1) < (nwOf n o).B - i; omega⟩
  show OwnL (eInt .i64) 3 w2.heap.size S W v (pInts ((nwOf n o).refsTo (i + 1)))
  rw [hrs]; exact hown
/-- a and b are buses -/
def busB (n : NtV) (a : Int) : Prop := 0 ≤ a ∧ a < n.b
open Classical in
noncomputable def conE (n : NtV) (o : List Int) (a b : Int) : Int := if outE n o ≠ 0 then outE n o else if busB n a ∧ busB n b then 0 else 1
theorem conE_ok {n : NtV} {o : List Int} {a b : Int} (h : conE n o a b = 0) : outE n o = 0 ∧ busB n a ∧ busB n b := by
 unfold conE at h
 split at h
 ·exact absurd h (by assumption)
 ·split at h
  ·exact ⟨Classical.not_not.1 (by assumption), by assumption⟩
  ·cases h
open Classical in
noncomputable def conB (n : NtV) (o : List Int) (a b : Int) : Bool := decide (conE n o a b = 0 ∧ (nwOf n o).root a.toNat = (nwOf n o).root b.toNat)
theorem E_island_Connected : Ent Tryz.prog 53 := ent_of Tryz.func53 (by kernel_rfl) rfl
theorem island_Connected_c {S : Nat → Prop} {w : World} {vn vo : Value} {n : NtV} {o : List Int} {a b : Int} (up : Up S w) (hn : eN.R S w vn n) (ho : eI.R S w vo o) :
  CR Tryz.prog 53 #[vn, vo, .int .i64 a, .int .i64 b] w (Two (Is (.bool (conB n o a b))) (Is (.int .i64 (conE n o a b)))) := by
 obtain ⟨s, rfl, hs, hb⟩ := hn
 have hn : eN.R S w (.agg #[.int .i64 n.b, s]) n := ⟨s, rfl, hs, hb⟩
 refine enter Tryz.func53 rfl Tryz.ntmps53 rfl ?_
 refine .seq (.region (.box rfl rfl fun w1 b2 n1 => .asg rfl rfl (.asg rfl rfl (.nil ?_))))
 obtain ⟨e1, k2, hb2, hs1⟩ := n1
 refine .seq (.region (.ldA ty_N rfl rfl k2 rfl (.mv rfl rfl ?_)))
 refine .call _ rfl E_island_Of rfl (island_Of_c (up.ext e1.size) (hn.ext e1) (ho.ext e1)) fun v2 w2 e2 h2 => ?_
 obtain ⟨vl, ve, rfl, hl, he⟩ := h2
 replace he : ve = .int .i64 (outE n o) := he
 subst he
 have x2 := e1.trans e2
 have k2 := k2.ext e2
 refine .mv rfl rfl (.ext rfl rfl rfl (.ext rfl rfl rfl (.asg rfl rfl (.asg rfl rfl (.nil (.seq (.seq (.region (.mv rfl rfl ?_)))))))))
 have hno : conE n o a b ≠ 0 → conB n o a b = false := fun h => by unfold conB; exact decide_eq_false fun h' => h h'.1
 by_cases hE : outE n o = 0
 rotate_left
 ·have hc : conE n o a b = outE n o := by unfold conE; rw [if_pos hE]
  refine .neqT rfl rfl rfl hE (.nil (.condT rfl (.seq (.region (.mv rfl rfl (.asg rfl rfl (.asg rfl rfl (.nil (.ret ?_)))))))))
  exact .plain [_, _] Tryz.results53 ⟨rfl, rfl, trivial⟩ ⟨x2, _, _, rfl, by rw [hno (by rw [hc]; exact hE)], by rw [hc]; rfl⟩
 have ok := nw_ok hE
 rw [if_pos hE] at hl
 have hbad : ¬ (busB n a ∧ busB n b) → ∀ {σ : Env}, Leave Tryz.prog Tryz.f53 48 (fun v w' => Ext w w' ∧ Two (Is (.bool (conB n o a b))) (Is (.int .i64 (conE n o a b))) v w') ((9, .int .i64 1) :: (8, .bool false) :: σ) [] w2 := fun h σ => by
  have hc : conE n o a b = 1 := by unfold conE; rw [if_neg (by simpa using hE), if_neg h]
  exact .plain [_, _] Tryz.results53 ⟨rfl, rfl, trivial⟩ ⟨x2, _, _, rfl, by rw [hno (by rw [hc]; decide)], by rw [hc]⟩
 refine .neqF rfl rfl rfl hE (.nil (.condF rfl (.skip (.seq (.seq (.region (.mv rfl rfl ?_)))))))
 by_cases ha0 : a < 0
 ·refine .lssT rfl rfl rfl ha0 (.mv rfl rfl (.gs rfl rfl rfl rfl rfl (.gs rfl rfl rfl rfl rfl (.gs rfl rfl rfl rfl rfl (.gs rfl rfl rfl rfl rfl (.pick rfl rfl rfl (.mv rfl rfl (.gs rfl rfl rfl rfl rfl (.gs rfl rfl rfl rfl rfl (.pick rfl rfl rfl (.mv rfl rfl (.gs rfl rfl rfl rfl rfl (.gs rfl rfl rfl rfl rfl (.gs rfl rfl rfl rfl rfl (.gs rfl rfl rfl rfl rfl (.pick rfl rfl rfl (.nil (.condT rfl (.seq (.region (.asg rfl rfl (.asg rfl rfl (.nil (.ret ?_))))))))))))))))))))))))
  exact hbad fun h => by have := h.1.1; omega
 refine .lssF rfl rfl rfl (by omega) (.mv rfl rfl (.gr rfl rfl rfl rfl (.mv rfl rfl (.gr rfl rfl rfl rfl (.fa fld_N0 rfl rfl (.gr rfl rfl rfl rfl (.ld ty_int rfl rfl k2 rfl (.gr rfl rfl rfl rfl ?_))))))))
 by_cases ha1 : n.b ≤ a
 ·refine .geqT rfl rfl rfl ha1 (.pick rfl rfl rfl (.mv rfl rfl (.gs rfl rfl rfl rfl rfl (.gs rfl rfl rfl rfl rfl (.pick rfl rfl rfl (.mv rfl rfl (.gs rfl rfl rfl rfl rfl (.gs rfl rfl rfl rfl rfl (.gs rfl rfl rfl rfl rfl (.gs rfl rfl rfl rfl rfl (.pick rfl rfl rfl (.nil (.condT rfl (.seq (.region (.asg rfl rfl (.asg rfl rfl (.nil (.ret ?_)))))))))))))))))))
  exact hbad fun h => by have := h.1.2; omega
 refine .geqF rfl rfl rfl (by omega) (.pick rfl rfl rfl (.mv rfl rfl (.gr rfl rfl rfl rfl (.mv rfl rfl (.gr rfl rfl rfl rfl ?_)))))
 by_cases hb0 : b < 0
 ·refine .lssT rfl rfl rfl hb0 (.pick rfl rfl rfl (.mv rfl rfl (.gs rfl rfl rfl rfl rfl (.gs rfl rfl rfl rfl rfl (.gs rfl rfl rfl rfl rfl (.gs rfl rfl rfl rfl rfl (.pick rfl rfl rfl (.nil (.condT rfl (.seq (.region (.asg rfl rfl (.asg rfl rfl (.nil (.ret ?_)))))))))))))))
  exact hbad fun h => by have := h.2.1; omega
 refine .lssF rfl rfl rfl (by omega) (.pick rfl rfl rfl (.mv rfl rfl (.gr rfl rfl rfl rfl (.mv rfl rfl (.gr rfl rfl rfl rfl (.fa fld_N0 rfl rfl (.gr rfl rfl rfl rfl (.ld ty_int rfl rfl k2 rfl (.gr rfl rfl rfl rfl ?_)))))))))
 by_cases hb1 : n.b ≤ b
 ·refine .geqT rfl rfl rfl hb1 (.pick rfl rfl rfl (.nil (.condT rfl (.seq (.region (.asg rfl rfl (.asg rfl rfl (.nil (.ret ?_)))))))))
  exact hbad fun h => by have := h.2.2; omega
 refine .geqF rfl rfl rfl (by omega) (.pick rfl rfl rfl (.nil (.condF rfl (.skip (.seq ?_)))))
 have hc : conE n o a b = 0 := by unfold conE; rw [if_neg (by simpa using hE), if_pos ⟨⟨by omega, by omega⟩, by omega, by omega⟩]
 obtain ⟨a', rfl⟩ : ∃ a' : Nat, a = a' := ⟨a.toNat, by omega⟩
 obtain ⟨b', rfl⟩ : ∃ b' : Nat, b = b' := ⟨b.toNat, by omega⟩
 have hnb := ok.b
 have haB : a' < (nwOf n o).B := by omega
 have hbB : b' < (nwOf n o).B := by omega
 refine .par follows 9 [.inl vl, .inl (.int .i64 (a' : Nat)), .inr (Ptr (eInt .i64) S ((nwOf n o).lab a' : Nat)), .inl (.int .i64 ((nwOf n o).lab a' : Nat)), .inl vl, .inl (.int .i64 (b' : Nat)), .inr (Ptr (eInt .i64) S ((nwOf n o).lab b' : Nat)), .inl (.int .i64 ((nwOf n o).lab b' : Nat)), .inl (.bool (conB n o a' b'))]
  [[], [], [(39, 0), (40, 1)], [(41, 2)], [], [], [(43, 4), (44, 5)], [(45, 6)], [(42, 3), (46, 7)]] (by kernel_rfl) ⟨
  fun w e => (v_mv rfl).ob, fun w e => (v_mv rfl).ob, fun w e => ob_ixN (i := a') un_I ty_I1 rfl (ER.ext eI hl e) rfl (tabI_get haB), fun w e x hx => ob_ldI ty_I1 rfl hx,
  fun w e => (v_mv rfl).ob, fun w e => (v_mv rfl).ob, fun w e => ob_ixN (i := b') un_I ty_I1 rfl (ER.ext eI hl e) rfl (tabI_get hbB), fun w e x hx => ob_ldI ty_I1 rfl hx,
  fun w e => ((v_eql rfl rfl).eq (by
   have := Nw.lab_eq haB hbB
   unfold conB
   by_cases h : (nwOf n o).root a' = (nwOf n o).root b'
   ·rw [decide_eq_true ⟨hc, h⟩, this.2 h]; simp
   ·rw [decide_eq_false fun h' => h h'.2]
    have h2 : (nwOf n o).lab a' ≠ (nwOf n o).lab b' := fun e => h (this.1 e)
    simp; omega)).ob, trivial⟩ ?_
 intro w3 e3 _ _ _ _
 refine .asg rfl rfl (.asg rfl rfl (.nil (.ret ?_)))
 exact .plain [_, _] Tryz.results53 ⟨rfl, rfl, trivial⟩ ⟨x2.trans e3, _, _, rfl, rfl, by rw [hc]⟩
end Go.Proofs.YthjnmfemndfijaaGreat

namespace Go.Kx
open Go Go.RowKit
def Nw.lmL (n : Nw) (l : List Nat) : RM := fun b c => l.foldl (fun s k => s + n.g k * (n.inc k b * n.inc k c)) 0
theorem Nw.lmL_snoc (n : Nw) (l : List Nat) (k b c : Nat) : n.lmL (l ++ [k]) b c = n.lmL l b c + n.g k * (n.inc k b * n.inc k c) := by unfold Nw.lmL; rw [List.foldl_append]; rfl
theorem Nw.lmL_free {n : Nw} {p : List Nat} (b c : Nat) : ∀ j, (∀ k, k < j → (n.g k = 0 ↔ k ∈ p)) → n.lmL (freeTo p j) b c = sumN j fun k => n.g k * (n.inc k b * n.inc k c)
 | 0, _ => rfl
 | j + 1, h => by
  have ih := Nw.lmL_free (n := n) (p := p) b c j fun k hk => h k (by omega)
  have hj := h j (by omega)
  rw [Go.Proofs.YthjnmfemndfijaaGreat.freeTo_succ]
  show _ = sumN j _ + _
  by_cases hg : n.g j = 0
  ·rw [if_pos (hj.1 hg), List.append_nil, ih]
   dsimp only
   rw [hg, Rat.zero_mul, Rat.add_zero]
  ·rw [if_neg (fun h => hg (hj.2 h)), Nw.lmL_snoc, ih]
/-- one entry set -/
def upE (f : RM) (i j : Nat) (y : Rat) : RM := fun b c => if b = i then (if c = j then y else f i c) else f b c
theorem upE_ne {f : RM} {i j b c : Nat} {y : Rat} (h : b ≠ i ∨ c ≠ j) : upE f i j y b c = f b c := by
 unfold upE
 by_cases hb : b = i
 ·subst hb
  rw [if_pos rfl, if_neg (by rcases h with h | h; exact absurd rfl h; exact h)]
 ·rw [if_neg hb]
theorem Nw.four (n : Nw) {k : Nat} (hne : n.F k ≠ n.T k) (f : RM) (b c : Nat) :
  upE (upE (upE (upE f (n.F k) (n.F k) (f (n.F k) (n.F k) + n.g k)) (n.F k) (n.T k) (f (n.F k) (n.T k) - n.g k)) (n.T k) (n.T k) (f (n.T k) (n.T k) + n.g k)) (n.T k) (n.F k) (f (n.T k) (n.F k) - n.g k) b c = f b c + n.g k * (n.inc k b * n.inc k c) := by
 unfold upE Nw.inc dl
 generalize n.F k = F at *
 generalize n.T k = T at *
 by_cases h1 : b = F
 ·subst h1
  by_cases h2 : c = b
  ·subst h2; simp [hne, Ne.symm hne]; grind
  ·by_cases h3 : c = T
   ·subst h3; simp [hne, Ne.symm hne]; grind
   ·simp [hne, Ne.symm hne, h2, h3, Ne.symm h2, Ne.symm h3]; grind
 ·by_cases h1' : b = T
  ·subst h1'
   by_cases h2 : c = b
   ·subst h2; simp [hne, Ne.symm hne]; grind
   ·by_cases h3 : c = F
    ·subst h3; simp [hne, Ne.symm hne]; grind
    ·simp [hne, Ne.symm hne, h2, h3, Ne.symm h2, Ne.symm h3]; grind
  ·simp [h1, h1', Ne.symm h1, Ne.symm h1']; grind
theorem rsz_tri {g : Rat} {s : Rat} {L : Nat} (h : Rsz g L) (hL : 1 ≤ L) (hs : s = 0 ∨ s = 1 ∨ s = -1) : Rsz (g * s) L := by
 rcases hs with rfl | rfl | rfl
 ·rw [Rat.mul_zero]; exact Rsz.zero hL
 ·rw [Rat.mul_one]; exact h
 ·rw [show g * (-1) = -g by grind]; exact h.neg
theorem Nw.inc_tri (n : Nw) (k b : Nat) : n.inc k b = 0 ∨ n.inc k b = 1 ∨ n.inc k b = -1 := by
 unfold Nw.inc dl
 split <;> split <;> grind
theorem Nw.lmL_rsz (n : Nw) {L : Nat} (hL : 1 ≤ L) (hg : ∀ k, Rsz (n.g k) L) (b c : Nat) (l : List Nat) : Rsz (n.lmL l b c) (1 + l.length * (L + 1)) := by
 have key : ∀ (m : Nat) (l : List Nat), l.length = m → Rsz (n.lmL l b c) (1 + m * (L + 1)) := by
  intro m
  induction m with
  | zero => intro l hl; rw [List.length_eq_zero_iff.1 hl]; exact Rsz.zero (by omega)
  | succ m ih =>
   intro l hl
   obtain ⟨l', k, rfl⟩ : ∃ l' k, l = l' ++ [k] := ⟨l.dropLast, l.getLast (by intro e; rw [e] at hl; cases hl), (List.dropLast_concat_getLast _).symm⟩
   rw [Nw.lmL_snoc]
   have h1 := ih l' (by simp at hl; exact hl)
   have h2 : Rsz (n.g k * (n.inc k b * n.inc k c)) L := rsz_tri (hg k) hL (by
    rcases n.inc_tri k b with h | h | h <;> rcases n.inc_tri k c with h' | h' | h' <;> rw [h, h'] <;> grind)
   refine (h1.add h2).mono ?_
   rw [Nat.add_mul]; omega
 exact key _ l rfl
end Go.Kx
namespace Go.Proofs.YthjnmfemndfijaaGreat
open Go Go.Kx Go.RowKit
theorem nwOk.gsz {n : NtV} {o : List Int} (h : nwOk n o) (k : Nat) : Rsz ((nwOf n o).g k) 1 := by
 show Rsz (if k ∈ oN o then (0 : Rat) else ((n.ls.getD k ln0).x : Rat)⁻¹) 1
 have hx : 1 ≤ (n.ls.getD k ln0).x ∧ (n.ls.getD k ln0).x ≤ 1000 := by
  rcases Nat.lt_or_ge k n.ls.length with hk | hk
  ·exact h.x k hk
  ·rw [List.getD_eq_getElem?_getD, List.getElem?_eq_none hk]; decide
 split
 ·exact Rsz.zero (Nat.le_refl _)
 ·exact (Rsz.int _ (by omega) (Nat.le_refl _)).inv (Nat.le_refl _)
end Go.Proofs.YthjnmfemndfijaaGreat

namespace Go.Proofs.YthjnmfemndfijaaGreat
open Go Go.Kx Go.RowKit
theorem E_frac_New : Ent Tryz.prog 148 := ent_of Tryz.func148 (by kernel_rfl) rfl
theorem frac_New_c {S : Nat → Prop} {w : World} {n d : Int} (up : Up S w) (hn1 : -9223372036854775808 ≤ n) (hn2 : n ≤ 9223372036854775807) (hd1 : -9223372036854775808 ≤ d) (hd2 : d ≤ 9223372036854775807) (hd : d ≠ 0) :
  CR Tryz.prog 148 #[.int .i64 n, .int .i64 d] w (Two (eQ.at S (qc (Rat.divInt n d))) (Is (.int .i64 0))) := by
 refine enter Tryz.func148 rfl Tryz.ntmps148 rfl ?_
 refine .seq (.region (.alloc rfl zero_Q fun w1 b4 n1 => .asg rfl rfl (.nil ?_)))
 obtain ⟨e1, k4, hb4, hs1⟩ := n1
 have hS4 : ¬ Sx S w.heap.size w1.heap.size b4 := Sx.no (by omega) (by omega)
 have up1 : Up (Sx S w.heap.size w1.heap.size) w1 := Sx.up up (Nat.le_refl _) e1.size
 refine .seq (.seq (.region (.mv rfl rfl (.eqlF rfl rfl rfl hd (.nil (.condF rfl (.skip (.seq (.region (.mv rfl rfl ?_))))))))))
 refine .call _ rfl E_whole_FromInt64 rfl (whole_FromInt64_c up1 hn1 hn2) fun v2 w2 e2 h2 => .mv rfl rfl ?_
 refine .call _ rfl E_whole_FromInt64 rfl (whole_FromInt64_c (up1.ext e2.size) hd1 hd2) fun v3 w3 e3 h3 => ?_
 refine .call _ rfl E_frac_reduce rfl (frac_reduce_c (L := 2) (up1.ext (e2.trans e3).size) (Zv.of (ER.ext eZ h2 e3) (by omega)) (Zv.of h3 (by omega)) hd (by decide)) fun v5 w5 e5 h5 => ?_
 have x5 := ((e1.trans e2).trans e3).trans e5
 refine .storeA (E := eQ) ty_Q rfl rfl (((k4.ext e2).ext e3).ext e5) rfl rfl h5 hS4 fun w6 k6 u6 h6 => .asg rfl rfl (.nil (.ret ?_))
 exact .plain [_, _] Tryz.results148 ⟨⟨_, rfl, load_cell (E := eQ) ty_Q rfl rfl k6 h6⟩, rfl, trivial⟩ ⟨u6.below x5 (by omega), _, _, rfl, h6.out, rfl⟩
theorem E_vec_Sub : Ent Tryz.prog 55 := ent_of Tryz.func55 (by kernel_rfl) rfl
theorem vec_Sub_c {S : Nat → Prop} {w : World} {va vb : Value} {a b : List QV} {L : Nat} (up : Up S w) (ha : eV.R S w va a) (hb : eV.R S w vb b) (hla : a.length ≤ 1000000000) (hlb : b.length ≤ 1000000000) (hka : vk L a) (hkb : vk L b) (hL : 1 ≤ L) (hL2 : L ≤ 10000000000) :
  CR Tryz.prog 55 #[va, vb] w (eV.at S (tab (max a.length b.length) fun k => rv a k - rv b k)) := by
 refine enter Tryz.func55 rfl Tryz.ntmps55 rfl ?_
 refine .seq (.region (.asg rfl rfl (.nil (.seq (.region (.mv rfl rfl (.mv rfl rfl ?_)))))))
 refine .call _ rfl E_vec_combine rfl (vec_combine_c (g := fun k => qc (rv a k - rv b k)) up ha hb hla hlb E_frac_Sub fun W T i x y hB hT hup hi hx hy => ?_) fun v1 w1 e1 h1 => .asg rfl rfl (.nil (.ret ?_))
 ·exact frac_Sub_c hup hx hy (hka.get hL i).1 (hkb.get hL i).1 hL (by omega)
 ·exact .plain [_] Tryz.results55 ⟨rfl, trivial⟩ ⟨e1, h1⟩
end Go.Proofs.YthjnmfemndfijaaGreat

namespace Go.Kx
open Go Go.RowKit
theorem MB.new {t tq : TypeId} {S : Nat → Prop} {w w1 w2 : World} {gb c b : Nat} {hs : List Nat} {M : List (List QV)} (h : MB t tq S w gb c hs M) (e : Ext w w1) (u : Upd w1 w2 b) (hb : w.heap.size ≤ b) : MB t tq S w2 gb c hs M := by
 have h1 := h.mono (S' := fun k => S k ∧ k < w.heap.size) fun k hk hS => ⟨hS, hk⟩
 have hg := h.out.lt
 have h2 := (h1.ext e).upd u (by omega) (fun hm => by have := h.lt hm; omega) fun hS => by have := hS.2; omega
 exact h2.mono fun k _ hS => hS.1
theorem tabM_upE {B i j : Nat} {f : RM} {y : Rat} (hi : i < B) : (tabM B B f).set i ((tab B (f i)).set j (qc y)) = tabM B B (upE f i j y) := by
 rw [tab_set, tabM_set hi]
 rfl
end Go.Kx
namespace Go.Proofs.YthjnmfemndfijaaGreat
open Go Go.Kx Go.RowKit
theorem E_shift_equations : Ent Tryz.prog 98 := ent_of Tryz.func98 (by kernel_rfl) rfl
theorem shift_equations_c {S : Nat → Prop} {w : World} {vn vl vr : Value} {n : NtV} {o : List Int} (up : Up S w) (hn : eN.R S w vn n) (hl : eI.R S w vl (pInts (inL n o))) (hr : eI.R S w vr (pInts (nwOf n o).refs)) (ok : nwOk n o) :
  CR Tryz.prog 98 #[vn, vl, vr] w (eM.at S (tabM (nwOf n o).B (nwOf n o).B (nwOf n o).gm)) := by
 obtain ⟨s, rfl, hs, _⟩ := hn
 have hB6 := ok.b6
 have hM10 : n.ls.length ≤ 10 := ok.m
 have hll := inL_len n o
 have hnb := ok.b
 refine enter Tryz.func98 rfl Tryz.ntmps98 rfl ?_
 refine .seq (.region (.box rfl rfl fun w1 b3 n1 => .asg rfl rfl (.nil ?_)))
 obtain ⟨e1, k3, hb3, hs1⟩ := n1
 rw [hnb] at k3
 generalize hnw : nwOf n o = nw at *
 generalize hB : nw.B = B at *
 refine .seq (.region (.fa fld_N0 rfl rfl (.ld ty_int rfl rfl k3 rfl (.fa fld_N0 rfl rfl (.ld ty_int rfl rfl k3 rfl ?_)))))
 refine .call _ rfl E_mat_Resize rfl (mat_ResizeB_c (m := []) (L := 1) (up.ext e1.size) RL.nil (fun r hr => by cases hr) (by decide) (by decide)) fun v2 w2 e2 h2 => .asg rfl rfl (.nil ?_)
 obtain ⟨gb, hs2, rfl, hgb, hge, hM⟩ := h2
 have hcB : cutN (B : Int) = B := by unfold cutN; omega
 rw [hcB] at hM ⊢
 have hz : tabM B B (rm []) = tabM B B (nw.lmL []) := tabM_congr' fun i k _ _ => by unfold rm; rw [List.getD_nil, rv_nil]; rfl
 rw [hz] at hM
 have x2 := e1.trans e2
 have hw1 := e1.size
 have hsW : ∀ {W : World}, Below w1.heap.size w2 W → eLs.R (fun k => S k ∧ k < w.heap.size) W s n.ls := fun h => eLs.keep (fun k c t f hk hh => (h.block k (by have := hk.2; omega)).trans hh) (ER.ext eLs (ER.lt eLs hs) x2)
 have hlW : ∀ {W : World}, Below w1.heap.size w2 W → eI.R (fun k => S k ∧ k < w.heap.size) W vl (pInts (inL n o)) := fun h => eI.keep (fun k c t f hk hh => (h.block k (by have := hk.2; omega)).trans hh) (ER.ext eI (ER.lt eI hl) x2)
 have hrW : ∀ {W : World}, Below w1.heap.size w2 W → eI.R (fun k => S k ∧ k < w.heap.size) W vr (pInts nw.refs) := fun h => eI.keep (fun k c t f hk hh => (h.block k (by have := hk.2; omega)).trans hh) (ER.ext eI (ER.lt eI hr) x2)
 have k3 := k3.ext e2
 have hk3 : ∀ {W : World}, Below w1.heap.size w2 W → Blk W b3 40 #[.int .i64 (B : Nat), s] := fun h => (h.block b3 (by omega)).trans k3
 have hhl : hs2.length = B := by rw [hM.len, tabM_length]
 have hhg : ∀ i, i < B → hs2[i]? = some (hs2.getD i 0) := fun i hi => getD_get' (by omega)
 have hhm : ∀ i, i < B → w1.heap.size ≤ hs2.getD i 0 := fun i hi => hge _ (getD_mem (by omega))
 have hw2 := e2.size
 refine .mid (α := Unit) (fun _ => [(2, vr), (3, .pointer (some ⟨b3, 0, none⟩)), (7, .slice (some ⟨gb, 0, none⟩) B B)]) (fun _ W => Below w1.heap.size w2 W ∧ MB 46 32 S W gb B hs2 (tabM B B (nw.lmL (inL n o)))) ?_ ?_
 ·refine .seq (.region (.mv rfl rfl (.lenR un_I rfl rfl (hlW (Below.refl _ _)) (.mv rfl rfl (.nil ?_)))))
  rw [show (pInts (inL n o)).length = (inL n o).length by simp]
  refine .block (.loop (α := Nat) (fun i => [(2, vr), (3, .pointer (some ⟨b3, 0, none⟩)), (7, .slice (some ⟨gb, 0, none⟩) B B), (21, vl), (22, .int .i64 ((inL n o).length : Nat)), (23, .int .i64 (i : Nat))]) (fun i W => Below w1.heap.size w2 W ∧ i ≤ (inL n o).length ∧ MB 46 32 S W gb B hs2 (tabM B B (nw.lmL ((inL n o).take i)))) (fun i => (inL n o).length - i) 0 ?_ ?_ ?_)
  ·exact look_cons rfl (look_cons rfl (look_cons rfl (look_cons rfl (look_cons rfl (look_cons rfl look_nil)))))
  ·exact ⟨Below.refl _ _, Nat.zero_le _, hM⟩
  rintro i W ⟨hW, hi, hM⟩
  have hhk : ∀ j, j < B → hs2.getD j 0 < W.heap.size := fun j hj => hM.lt (getD_mem (by omega))
  refine .seq (.region ?_)
  rcases Nat.lt_or_ge i (inL n o).length with hlt | hge'
  rotate_left
  ·refine .lssF rfl rfl rfl (by omega) (.nil (.seq (.condF rfl (.exit ?_))))
   have : i = (inL n o).length := by omega
   subst this
   rw [List.take_of_length_le (Nat.le_refl _)] at hM
   exact ⟨rfl, (), look_cons rfl (look_cons rfl (look_cons rfl look_nil)), hW, hM⟩
  obtain ⟨hgk, hkM, hko⟩ := inL_get hlt
  refine .lssT rfl rfl rfl (by omega) (.nil (.seq (.condT rfl (.skip (.seq (.block (.seq (.region (.ixN (i := i) un_I ty_I1 rfl rfl (hlW hW) rfl hgk fun q hq => .ldE (E := eInt .i64) ty_I1 rfl rfl hq fun e he => .asg rfl rfl (.nil ?_))))))))))
  obtain ⟨rfl, _⟩ := he
  have htk : (inL n o).take (i + 1) = (inL n o).take i ++ [(inL n o).getD i 0] := by rw [List.take_add_one, getD_get' (z := 0) hlt]; rfl
  have hgl : n.ls[(inL n o).getD i 0]? = some (n.ls.getD ((inL n o).getD i 0) ln0) := getD_get' hkM
  have hkM' : (inL n o).getD i 0 < (nwOf n o).M := hkM
  have hFI := ok.fI _ hkM'
  have hTI := ok.tI _ hkM'
  have hFB := ok.f _ hkM'
  have hTB := ok.t _ hkM'
  have hne := ok.ne _ hkM'
  have hx := ok.x _ hkM'
  have hgs := ok.gsz ((inL n o).getD i 0)
  have hgv : (nwOf n o).g ((inL n o).getD i 0) = Rat.divInt 1 (n.ls.getD ((inL n o).getD i 0) ln0).x := by
   show (if (inL n o).getD i 0 ∈ oN o then (0 : Rat) else ((n.ls.getD ((inL n o).getD i 0) ln0).x : Rat)⁻¹) = _
   rw [if_neg hko, Rat.divInt_eq_div, Rat.div_def, show ((1 : Int) : Rat) = 1 from rfl, Rat.one_mul]
  rw [hnw] at hFI hTI hFB hTB hne hgs hgv
  rw [hB] at hFB hTB
  have hfs : ∀ b c, Rsz (nw.lmL ((inL n o).take i) b c) 30 := fun b c => (nw.lmL_rsz (Nat.le_refl _) (fun k => by rw [← hnw]; exact ok.gsz k) b c _).mono (by rw [List.length_take]; omega)
  generalize hk : (inL n o).getD i 0 = k at *
  generalize hf : nw.lmL ((inL n o).take i) = f at *
  generalize hln : n.ls.getD k ln0 = ln at *
  refine .seq (.region (.fa fld_N1 rfl rfl (.ld ty_Ls rfl rfl (hk3 hW) rfl (.mv rfl rfl (.ixN (i := k) un_Ls ty_Ln rfl rfl (hsW hW) rfl hgl fun q hq => .ldE (E := eL) ty_Ln rfl rfl hq fun vl' hvl => .alloc rfl zero_Ln fun W1 b10 n1' => ?_)))))
  obtain ⟨f1, k10, hb10, hs1'⟩ := n1'
  refine .storeA (E := eL) (S := fun k => k ≠ b10) (z := ln) ty_Ln rfl rfl k10 rfl rfl hvl (fun h => h rfl) fun W2 k10 u2 hl2 => .nil ?_
  obtain ⟨rfl, _⟩ := hl2
  rw [hFI, hTI] at k10
  replace k10 : Blk W2 b10 58 #[.int .i64 (nw.F k : Nat), .int .i64 (nw.T k : Nat), .int .i64 ln.x, .int .i64 ln.c] := k10
  have hWs := hW.size
  have hM := hM.new f1 u2 (by omega)
  have hs2' := u2.size
  have hW2 : Below w1.heap.size w2 W2 := u2.below (hW.trans (f1.mono (by omega))) (by omega)
  have upT : ∀ {W' : World}, W2.heap.size ≤ W'.heap.size → Up (offM S gb hs2) W' := fun h k' hk' => ⟨up k' (by omega), by have := hM.out.lt; omega, fun hm => by have := hM.lt hm; omega⟩
  refine .seq (.region (.fa fld_Ln2 rfl rfl (.ld ty_i64 rfl rfl k10 rfl ?_)))
  refine .call _ rfl E_frac_New rfl (frac_New_c (upT (Nat.le_refl _)) (by decide) (by decide) (by omega) (by omega) (by omega)) fun v3 W3 e3 h3 => ?_
  obtain ⟨vp, ve, rfl, hp, rfl⟩ := h3
  rw [← hgv] at hp
  refine .mv rfl rfl (.ext rfl rfl rfl (.ext rfl rfl rfl (.alloc rfl zero_Q fun W4 b11 n4 => ?_)))
  obtain ⟨e4, k11, hb11, hs4⟩ := n4
  have hs3 := e3.size
  refine .storeA (E := eQ) (S := fun k => offM S gb hs2 k ∧ k < W3.heap.size) ty_Q rfl rfl k11 rfl rfl (ER.ext eQ (ER.lt eQ hp) e4) (fun h => by have := h.2; omega) fun W5 k11 u5 hp5 => .asg rfl rfl (.nil ?_)
  have hp5 : eQ.R (offM S gb hs2) W5 vp (qc (nw.g k)) := eQ.mono (fun _ _ h => h.1) hp5
  have hvp := shpA (E := eQ) rfl hp5
  have hM := hM.new (e3.trans e4) u5 (by omega)
  have hs5 := u5.size
  have hW5 : Below w1.heap.size w2 W5 := u5.below (hW2.trans ((e3.trans e4).mono (by omega))) (by omega)
  have k10 := (k10.ext (e3.trans e4)).upd u5 (show b10 ≠ b11 by omega)
  have hrow0 := hM.row (nw.F k) _ _ (hhg _ hFB) (tabM_get hFB)
  refine .seq ?_
  refine .par follows 18 [.inl (.slice (some ⟨gb, 0, none⟩) B B), .inl (.pointer (some ⟨b10, 0, none⟩)), .inl (.int .i64 (nw.F k : Nat)), .inl (.pointer (some ⟨gb, 0 + (nw.F k) * 1, none⟩)), .inl (slB B (hs2.getD (nw.F k) 0)), .inl (.pointer (some ⟨b10, 0, none⟩)), .inl (.int .i64 (nw.F k : Nat)), .inl (.slice (some ⟨gb, 0, none⟩) B B), .inl (.pointer (some ⟨b10, 0, none⟩)), .inl (.int .i64 (nw.F k : Nat)), .inl (.pointer (some ⟨gb, 0 + (nw.F k) * 1, none⟩)), .inl (slB B (hs2.getD (nw.F k) 0)), .inl (.pointer (some ⟨b10, 0, none⟩)), .inl (.int .i64 (nw.F k : Nat)), .inl (.pointer (some ⟨hs2.getD (nw.F k) 0, 0 + (nw.F k) * 4, none⟩)), .inr (eQ.at (offM S gb hs2) (qc (f (nw.F k) (nw.F k)))), .inl vp, .inr (eQ.at (offM S gb hs2) (qc (f (nw.F k) (nw.F k) + nw.g k)))]
   [[], [], [(39, 1)], [(38, 0), (40, 2)], [(41, 3)], [], [(43, 5)], [], [], [(46, 8)], [(45, 7), (47, 9)], [(48, 10)], [], [(50, 12)], [(49, 11), (51, 13)], [(52, 14)], [], [(53, 15), (54, 16)]] (by kernel_rfl) ⟨
   fun w e => (v_mv rfl).ob, fun w e => (v_fa fld_Ln0 rfl).ob, fun w e => (v_ld ty_int rfl (k10.ext e) rfl).ob, fun w e => (v_ixB (i := nw.F k) un_M ty_V rfl rfl hFB).ob, fun w e => (v_ld ty_V rfl (hM.out.ext e) (hM.cell (hhg _ hFB))).ob, fun w e => (v_fa fld_Ln0 rfl).ob, fun w e => (v_ld ty_int rfl (k10.ext e) rfl).ob,
   fun w e => (v_mv rfl).ob, fun w e => (v_fa fld_Ln0 rfl).ob, fun w e => (v_ld ty_int rfl (k10.ext e) rfl).ob, fun w e => (v_ixB (i := nw.F k) un_M ty_V rfl rfl hFB).ob, fun w e => (v_ld ty_V rfl (hM.out.ext e) (hM.cell (hhg _ hFB))).ob, fun w e => (v_fa fld_Ln0 rfl).ob, fun w e => (v_ld ty_int rfl (k10.ext e) rfl).ob,
   fun w e => (v_ixB (i := nw.F k) un_V ty_Q rfl rfl hFB).ob,
   fun w e => (ob_ldF (E := eQ) (i := nw.F k) (by decide) ty_Q rfl (Nat.zero_add _) (hrow0.2.ext e) (by rw [tab_get hFB])).mono fun v' w' h => ⟨h.1, fun w'' e' => eQ.mono (fun _ _ h => h.1) (h.2 w'' e')⟩,
   fun w e => ((v_ldA ty_Q rfl (k11.ext e) (eQ.csz hp5)).eq hvp.symm).ob,
   fun w e x hx => by
    have := frac_Add_c (L := 30) (upT (by have := e.size; omega)) hx (ER.ext eQ hp5 e) (hfs _ _).toOk (hgs.mono (by decide)).toOk (by decide) (by decide)
    rw [qval_qc, qval_qc] at this
    exact (g_call _ E_frac_Add rfl this).ob (st_at _ _ _), trivial⟩ ?_
  intro X0 g0 _ _ y0 hy0
  refine .ixB (i := nw.F k) un_V ty_Q rfl rfl rfl hFB (.storeF (E := eQ) (i := nw.F k) (by decide) ty_Q rfl rfl (hrow0.2.ext g0) rfl (by rw [tab_length]; exact hFB) (Nat.zero_add _) (eQ.mono (fun k' _ h => ⟨h, fun e => h.2.2 (e ▸ getD_mem (by omega))⟩) hy0) fun Y0 fy0 uy0 => .nil ?_)
  have hM := (hM.ext g0).set (hhg _ hFB) (by rw [List.length_set, tab_length]) uy0 fy0
  rw [tabM_upE hFB] at hM
  have sx0 := g0.size
  have sy0 := uy0.size
  have lw0 := hhm _ hFB
  have lk0 := hhk _ hFB
  have hW5 : Below w1.heap.size w2 Y0 := uy0.below (hW5.trans (g0.mono (by omega))) lw0
  have k10 := (k10.ext g0).upd uy0 (by omega)
  have k11 := (k11.ext g0).upd uy0 (by omega)
  have hp5 := (ER.ext eQ hp5 g0).upd uy0 (fun h => h.2.2 (getD_mem (by omega)))
  have hrow1 := hM.row (nw.F k) _ _ (hhg _ hFB) (tabM_get hFB)
  refine .seq ?_
  refine .par follows 18 [.inl (.slice (some ⟨gb, 0, none⟩) B B), .inl (.pointer (some ⟨b10, 0, none⟩)), .inl (.int .i64 (nw.F k : Nat)), .inl (.pointer (some ⟨gb, 0 + (nw.F k) * 1, none⟩)), .inl (slB B (hs2.getD (nw.F k) 0)), .inl (.pointer (some ⟨b10, 1, none⟩)), .inl (.int .i64 (nw.T k : Nat)), .inl (.slice (some ⟨gb, 0, none⟩) B B), .inl (.pointer (some ⟨b10, 0, none⟩)), .inl (.int .i64 (nw.F k : Nat)), .inl (.pointer (some ⟨gb, 0 + (nw.F k) * 1, none⟩)), .inl (slB B (hs2.getD (nw.F k) 0)), .inl (.pointer (some ⟨b10, 1, none⟩)), .inl (.int .i64 (nw.T k : Nat)), .inl (.pointer (some ⟨hs2.getD (nw.F k) 0, 0 + (nw.T k) * 4, none⟩)), .inr (eQ.at (offM S gb hs2) (qc (f (nw.F k) (nw.T k)))), .inl vp, .inr (eQ.at (offM S gb hs2) (qc (f (nw.F k) (nw.T k) - nw.g k)))]
   [[], [], [(58, 1)], [(57, 0), (59, 2)], [(60, 3)], [], [(62, 5)], [], [], [(65, 8)], [(64, 7), (66, 9)], [(67, 10)], [], [(69, 12)], [(68, 11), (70, 13)], [(71, 14)], [], [(72, 15), (73, 16)]] (by kernel_rfl) ⟨
   fun w e => (v_mv rfl).ob, fun w e => (v_fa fld_Ln0 rfl).ob, fun w e => (v_ld ty_int rfl (k10.ext e) rfl).ob, fun w e => (v_ixB (i := nw.F k) un_M ty_V rfl rfl hFB).ob, fun w e => (v_ld ty_V rfl (hM.out.ext e) (hM.cell (hhg _ hFB))).ob, fun w e => (v_fa fld_Ln1 rfl).ob, fun w e => (v_ld ty_int rfl (k10.ext e) rfl).ob,
   fun w e => (v_mv rfl).ob, fun w e => (v_fa fld_Ln0 rfl).ob, fun w e => (v_ld ty_int rfl (k10.ext e) rfl).ob, fun w e => (v_ixB (i := nw.F k) un_M ty_V rfl rfl hFB).ob, fun w e => (v_ld ty_V rfl (hM.out.ext e) (hM.cell (hhg _ hFB))).ob, fun w e => (v_fa fld_Ln1 rfl).ob, fun w e => (v_ld ty_int rfl (k10.ext e) rfl).ob,
   fun w e => (v_ixB (i := nw.T k) un_V ty_Q rfl rfl hTB).ob,
   fun w e => (ob_ldF (E := eQ) (i := nw.T k) (by decide) ty_Q rfl (Nat.zero_add _) (hrow1.2.ext e) (by rw [tab_get hTB, upE_ne (.inr (Ne.symm hne))])).mono fun v' w' h => ⟨h.1, fun w'' e' => eQ.mono (fun _ _ h => h.1) (h.2 w'' e')⟩,
   fun w e => ((v_ldA ty_Q rfl (k11.ext e) (eQ.csz hp5)).eq hvp.symm).ob,
   fun w e x hx => by
    have := frac_Sub_c (L := 30) (upT (by have := e.size; omega)) hx (ER.ext eQ hp5 e) (hfs _ _).toOk (hgs.mono (by decide)).toOk (by decide) (by decide)
    rw [qval_qc, qval_qc] at this
    exact (g_call _ E_frac_Sub rfl this).ob (st_at _ _ _), trivial⟩ ?_
  intro X1 g1 _ _ y1 hy1
  refine .ixB (i := nw.T k) un_V ty_Q rfl rfl rfl hTB (.storeF (E := eQ) (i := nw.T k) (by decide) ty_Q rfl rfl (hrow1.2.ext g1) rfl (by rw [tab_length]; exact hTB) (Nat.zero_add _) (eQ.mono (fun k' _ h => ⟨h, fun e => h.2.2 (e ▸ getD_mem (by omega))⟩) hy1) fun Y1 fy1 uy1 => .nil ?_)
  have hM := (hM.ext g1).set (hhg _ hFB) (by rw [List.length_set, tab_length]) uy1 fy1
  rw [tabM_upE hFB] at hM
  have sx1 := g1.size
  have sy1 := uy1.size
  have lw1 := hhm _ hFB
  have lk1 := hhk _ hFB
  have hW5 : Below w1.heap.size w2 Y1 := uy1.below (hW5.trans (g1.mono (by omega))) lw1
  have k10 := (k10.ext g1).upd uy1 (by omega)
  have k11 := (k11.ext g1).upd uy1 (by omega)
  have hp5 := (ER.ext eQ hp5 g1).upd uy1 (fun h => h.2.2 (getD_mem (by omega)))
  have hrow2 := hM.row (nw.T k) _ _ (hhg _ hTB) (tabM_get hTB)
  refine .seq ?_
  refine .par follows 18 [.inl (.slice (some ⟨gb, 0, none⟩) B B), .inl (.pointer (some ⟨b10, 1, none⟩)), .inl (.int .i64 (nw.T k : Nat)), .inl (.pointer (some ⟨gb, 0 + (nw.T k) * 1, none⟩)), .inl (slB B (hs2.getD (nw.T k) 0)), .inl (.pointer (some ⟨b10, 1, none⟩)), .inl (.int .i64 (nw.T k : Nat)), .inl (.slice (some ⟨gb, 0, none⟩) B B), .inl (.pointer (some ⟨b10, 1, none⟩)), .inl (.int .i64 (nw.T k : Nat)), .inl (.pointer (some ⟨gb, 0 + (nw.T k) * 1, none⟩)), .inl (slB B (hs2.getD (nw.T k) 0)), .inl (.pointer (some ⟨b10, 1, none⟩)), .inl (.int .i64 (nw.T k : Nat)), .inl (.pointer (some ⟨hs2.getD (nw.T k) 0, 0 + (nw.T k) * 4, none⟩)), .inr (eQ.at (offM S gb hs2) (qc (f (nw.T k) (nw.T k)))), .inl vp, .inr (eQ.at (offM S gb hs2) (qc (f (nw.T k) (nw.T k) + nw.g k)))]
   [[], [], [(77, 1)], [(76, 0), (78, 2)], [(79, 3)], [], [(81, 5)], [], [], [(84, 8)], [(83, 7), (85, 9)], [(86, 10)], [], [(88, 12)], [(87, 11), (89, 13)], [(90, 14)], [], [(91, 15), (92, 16)]] (by kernel_rfl) ⟨
   fun w e => (v_mv rfl).ob, fun w e => (v_fa fld_Ln1 rfl).ob, fun w e => (v_ld ty_int rfl (k10.ext e) rfl).ob, fun w e => (v_ixB (i := nw.T k) un_M ty_V rfl rfl hTB).ob, fun w e => (v_ld ty_V rfl (hM.out.ext e) (hM.cell (hhg _ hTB))).ob, fun w e => (v_fa fld_Ln1 rfl).ob, fun w e => (v_ld ty_int rfl (k10.ext e) rfl).ob,
   fun w e => (v_mv rfl).ob, fun w e => (v_fa fld_Ln1 rfl).ob, fun w e => (v_ld ty_int rfl (k10.ext e) rfl).ob, fun w e => (v_ixB (i := nw.T k) un_M ty_V rfl rfl hTB).ob, fun w e => (v_ld ty_V rfl (hM.out.ext e) (hM.cell (hhg _ hTB))).ob, fun w e => (v_fa fld_Ln1 rfl).ob, fun w e => (v_ld ty_int rfl (k10.ext e) rfl).ob,
   fun w e => (v_ixB (i := nw.T k) un_V ty_Q rfl rfl hTB).ob,
   fun w e => (ob_ldF (E := eQ) (i := nw.T k) (by decide) ty_Q rfl (Nat.zero_add _) (hrow2.2.ext e) (by rw [tab_get hTB, upE_ne (.inl (Ne.symm hne)), upE_ne (.inl (Ne.symm hne))])).mono fun v' w' h => ⟨h.1, fun w'' e' => eQ.mono (fun _ _ h => h.1) (h.2 w'' e')⟩,
   fun w e => ((v_ldA ty_Q rfl (k11.ext e) (eQ.csz hp5)).eq hvp.symm).ob,
   fun w e x hx => by
    have := frac_Add_c (L := 30) (upT (by have := e.size; omega)) hx (ER.ext eQ hp5 e) (hfs _ _).toOk (hgs.mono (by decide)).toOk (by decide) (by decide)
    rw [qval_qc, qval_qc] at this
    exact (g_call _ E_frac_Add rfl this).ob (st_at _ _ _), trivial⟩ ?_
  intro X2 g2 _ _ y2 hy2
  refine .ixB (i := nw.T k) un_V ty_Q rfl rfl rfl hTB (.storeF (E := eQ) (i := nw.T k) (by decide) ty_Q rfl rfl (hrow2.2.ext g2) rfl (by rw [tab_length]; exact hTB) (Nat.zero_add _) (eQ.mono (fun k' _ h => ⟨h, fun e => h.2.2 (e ▸ getD_mem (by omega))⟩) hy2) fun Y2 fy2 uy2 => .nil ?_)
  have hM := (hM.ext g2).set (hhg _ hTB) (by rw [List.length_set, tab_length]) uy2 fy2
  rw [tabM_upE hTB] at hM
  have sx2 := g2.size
  have sy2 := uy2.size
  have lw2 := hhm _ hTB
  have lk2 := hhk _ hTB
  have hW5 : Below w1.heap.size w2 Y2 := uy2.below (hW5.trans (g2.mono (by omega))) lw2
  have k10 := (k10.ext g2).upd uy2 (by omega)
  have k11 := (k11.ext g2).upd uy2 (by omega)
  have hp5 := (ER.ext eQ hp5 g2).upd uy2 (fun h => h.2.2 (getD_mem (by omega)))
  have hrow3 := hM.row (nw.T k) _ _ (hhg _ hTB) (tabM_get hTB)
  refine .par follows 18 [.inl (.slice (some ⟨gb, 0, none⟩) B B), .inl (.pointer (some ⟨b10, 1, none⟩)), .inl (.int .i64 (nw.T k : Nat)), .inl (.pointer (some ⟨gb, 0 + (nw.T k) * 1, none⟩)), .inl (slB B (hs2.getD (nw.T k) 0)), .inl (.pointer (some ⟨b10, 0, none⟩)), .inl (.int .i64 (nw.F k : Nat)), .inl (.slice (some ⟨gb, 0, none⟩) B B), .inl (.pointer (some ⟨b10, 1, none⟩)), .inl (.int .i64 (nw.T k : Nat)), .inl (.pointer (some ⟨gb, 0 + (nw.T k) * 1, none⟩)), .inl (slB B (hs2.getD (nw.T k) 0)), .inl (.pointer (some ⟨b10, 0, none⟩)), .inl (.int .i64 (nw.F k : Nat)), .inl (.pointer (some ⟨hs2.getD (nw.T k) 0, 0 + (nw.F k) * 4, none⟩)), .inr (eQ.at (offM S gb hs2) (qc (f (nw.T k) (nw.F k)))), .inl vp, .inr (eQ.at (offM S gb hs2) (qc (f (nw.T k) (nw.F k) - nw.g k)))]
   [[], [], [(96, 1)], [(95, 0), (97, 2)], [(98, 3)], [], [(100, 5)], [], [], [(103, 8)], [(102, 7), (104, 9)], [(105, 10)], [], [(107, 12)], [(106, 11), (108, 13)], [(109, 14)], [], [(110, 15), (111, 16)]] (by kernel_rfl) ⟨
   fun w e => (v_mv rfl).ob, fun w e => (v_fa fld_Ln1 rfl).ob, fun w e => (v_ld ty_int rfl (k10.ext e) rfl).ob, fun w e => (v_ixB (i := nw.T k) un_M ty_V rfl rfl hTB).ob, fun w e => (v_ld ty_V rfl (hM.out.ext e) (hM.cell (hhg _ hTB))).ob, fun w e => (v_fa fld_Ln0 rfl).ob, fun w e => (v_ld ty_int rfl (k10.ext e) rfl).ob,
   fun w e => (v_mv rfl).ob, fun w e => (v_fa fld_Ln1 rfl).ob, fun w e => (v_ld ty_int rfl (k10.ext e) rfl).ob, fun w e => (v_ixB (i := nw.T k) un_M ty_V rfl rfl hTB).ob, fun w e => (v_ld ty_V rfl (hM.out.ext e) (hM.cell (hhg _ hTB))).ob, fun w e => (v_fa fld_Ln0 rfl).ob, fun w e => (v_ld ty_int rfl (k10.ext e) rfl).ob,
   fun w e => (v_ixB (i := nw.F k) un_V ty_Q rfl rfl hFB).ob,
   fun w e => (ob_ldF (E := eQ) (i := nw.F k) (by decide) ty_Q rfl (Nat.zero_add _) (hrow3.2.ext e) (by rw [tab_get hFB, upE_ne (.inr hne), upE_ne (.inl (Ne.symm hne)), upE_ne (.inl (Ne.symm hne))])).mono fun v' w' h => ⟨h.1, fun w'' e' => eQ.mono (fun _ _ h => h.1) (h.2 w'' e')⟩,
   fun w e => ((v_ldA ty_Q rfl (k11.ext e) (eQ.csz hp5)).eq hvp.symm).ob,
   fun w e x hx => by
    have := frac_Sub_c (L := 30) (upT (by have := e.size; omega)) hx (ER.ext eQ hp5 e) (hfs _ _).toOk (hgs.mono (by decide)).toOk (by decide) (by decide)
    rw [qval_qc, qval_qc] at this
    exact (g_call _ E_frac_Sub rfl this).ob (st_at _ _ _), trivial⟩ ?_
  intro X3 g3 _ _ y3 hy3
  refine .ixB (i := nw.F k) un_V ty_Q rfl rfl rfl hFB (.storeF (E := eQ) (i := nw.F k) (by decide) ty_Q rfl rfl (hrow3.2.ext g3) rfl (by rw [tab_length]; exact hFB) (Nat.zero_add _) (eQ.mono (fun k' _ h => ⟨h, fun e => h.2.2 (e ▸ getD_mem (by omega))⟩) hy3) fun Y3 fy3 uy3 => .nil ?_)
  have hM := (hM.ext g3).set (hhg _ hTB) (by rw [List.length_set, tab_length]) uy3 fy3
  rw [tabM_upE hTB] at hM
  have sx3 := g3.size
  have sy3 := uy3.size
  have lw3 := hhm _ hTB
  have lk3 := hhk _ hTB
  have hW5 : Below w1.heap.size w2 Y3 := uy3.below (hW5.trans (g3.mono (by omega))) lw3
  have k10 := (k10.ext g3).upd uy3 (by omega)
  have k11 := (k11.ext g3).upd uy3 (by omega)
  have hp5 := (ER.ext eQ hp5 g3).upd uy3 (fun h => h.2.2 (getD_mem (by omega)))
  have hfin : tabM B B (upE (upE (upE (upE f (nw.F k) (nw.F k) (f (nw.F k) (nw.F k) + nw.g k)) (nw.F k) (nw.T k) (f (nw.F k) (nw.T k) - nw.g k)) (nw.T k) (nw.T k) (f (nw.T k) (nw.T k) + nw.g k)) (nw.T k) (nw.F k) (f (nw.T k) (nw.F k) - nw.g k)) = tabM B B (nw.lmL ((inL n o).take (i + 1))) := tabM_congr' fun b c _ _ => by
   rw [htk, Nw.lmL_snoc, hf]
   exact nw.four hne f b c
  rw [hfin] at hM
  refine .region (.add rfl rfl rfl (.mv rfl rfl (.nil ?_)))
  rw [wI (by omega)]
  exact ⟨rfl, i + 1, look_cons rfl (look_cons rfl (look_cons rfl (look_cons rfl (look_cons rfl (look_cons rfl look_nil))))), ⟨hW5, hlt, hM⟩, by show (inL n o).length - (i + 1) < (inL n o).length - i; omega⟩
 rintro _ W ⟨hW, hM⟩
 have hMs : FB eV 46 S W gb _ := hM.toFB (fun k hk => up k (by have := hge k hk; omega)) (by omega)
 have hWs := hW.size
 have hgl := hMs.lt
 refine .seq (.region (.fa fld_N0 rfl rfl (.ld ty_int rfl rfl (hk3 hW) rfl ?_)))
 refine .call _ rfl E_mat_Identity rfl (mat_Identity_c (S := fun k => S k ∧ k ≠ gb) fun k hk => ⟨up k (by omega), by omega⟩) fun vu W1 f1 hu => .asg rfl rfl (.nil ?_)
 rw [hcB] at hu
 have hW1 := hW.trans (f1.mono (by omega))
 have hf1 := f1.size
 generalize hF : (fun i => fun b c => if b ∈ nw.refs.take i then dl b c else nw.lmL (inL n o) b c : Nat → RM) = F
 have hF0 : tabM B B (nw.lmL (inL n o)) = tabM B B (F 0) := tabM_congr' fun b c _ _ => by rw [← hF]; simp
 rw [hF0] at hMs
 refine .seq (.seq (.region (.mv rfl rfl (.lenR un_I rfl rfl (hrW hW1) (.mv rfl rfl (.nil ?_))))))
 rw [show (pInts nw.refs).length = nw.refs.length by simp]
 have hrl : nw.refs.length ≤ B := by rw [← hB]; exact nw.cnt_le nw.B
 refine .block (.loop (α := Nat) (fun i => [(7, .slice (some ⟨gb, 0, none⟩) B B), (13, vu), (118, vr), (119, .int .i64 (nw.refs.length : Nat)), (120, .int .i64 (i : Nat))]) (fun i W => Below w1.heap.size w2 W ∧ i ≤ nw.refs.length ∧ eM.R (fun k => S k ∧ k ≠ gb) W vu (tabM B B idn) ∧ FB eV 46 S W gb (tabM B B (F i))) (fun i => nw.refs.length - i) 0 ?_ ?_ ?_)
 ·exact look_cons rfl (look_cons rfl (look_cons rfl (look_cons rfl (look_cons rfl look_nil))))
 ·exact ⟨hW1, Nat.zero_le _, hu, hMs.ext f1⟩
 rintro i W ⟨hW, hi, hu, hMs⟩
 refine .seq (.region ?_)
 rcases Nat.lt_or_ge i nw.refs.length with hlt | hge'
 rotate_left
 ·refine .lssF rfl rfl rfl (by omega) (.nil (.seq (.condF rfl (.exit (.seq (.region (.mv rfl rfl (.asg rfl rfl (.nil (.ret ?_))))))))))
  have : i = nw.refs.length := by omega
  subst this
  refine .plain [_] Tryz.results98 ⟨rfl, trivial⟩ ⟨Below.trans x2 (hW.mono (by omega)), ?_⟩
  have hfin : tabM B B (F nw.refs.length) = tabM B B nw.gm := tabM_congr' fun b c hb _ => by
   rw [← hF]
   dsimp only
   rw [List.take_of_length_le (Nat.le_refl _)]
   unfold Nw.gm
   by_cases hr : nw.root b = b
   ·rw [if_pos hr, if_pos (Nw.mem_refs.2 ⟨by omega, hr⟩)]
   ·rw [if_neg hr, if_neg fun h => hr (Nw.mem_refs.1 h).2]
    unfold Nw.Lm
    rw [← hnw]
    exact Nw.lmL_free (p := oN o) b c _ fun k hk => ok.g0 hk
  rw [hfin] at hMs
  have := hMs.toR (hsz := by decide) (c := B) (up gb (by omega)) (by rw [tabM_length]; exact Nat.le_refl _) (by rw [tabM_length]; omega)
  rw [tabM_length] at this
  exact this
 have hgr : (pInts nw.refs)[i]? = some ((nw.refs.getD i 0 : Nat) : Int) := by rw [List.getElem?_map, getD_get' (z := 0) hlt]; rfl
 have hrB : nw.refs.getD i 0 < B := by rw [← hB]; exact (Nw.mem_refs.1 (getD_mem hlt)).1
 refine .lssT rfl rfl rfl (by omega) (.nil (.seq (.condT rfl (.skip (.seq (.block (.seq (.region (.ixN (i := i) un_I ty_I1 rfl rfl (hrW hW) rfl hgr fun q hq => .ldE (E := eInt .i64) ty_I1 rfl rfl hq fun e he => .asg rfl rfl (.nil ?_))))))))))
 obtain ⟨rfl, _⟩ := he
 refine .region (.mv rfl rfl (.mv rfl rfl (.mv rfl rfl (.mv rfl rfl (.ixN (i := nw.refs.getD i 0) un_M ty_V rfl rfl hu rfl (tabM_get hrB) fun q hq => .ldE (E := eV) ty_V rfl rfl hq fun vw hvw => .ixB (i := nw.refs.getD i 0) un_M ty_V rfl rfl rfl hrB ?_)))))
 refine .storeF (E := eV) (i := nw.refs.getD i 0) (by decide) ty_V rfl rfl hMs rfl (by rw [tabM_length]; exact hrB) (Nat.zero_add _) hvw fun W2 f2 u2 => .nil ?_
 rw [tabM_set hrB] at f2
 have hstep : tabM B B (fun j k => if j = nw.refs.getD i 0 then idn (nw.refs.getD i 0) k else F i j k) = tabM B B (F (i + 1)) := tabM_congr' fun b c _ _ => by
  rw [← hF]
  dsimp only
  rw [show nw.refs.take (i + 1) = nw.refs.take i ++ [nw.refs.getD i 0] by rw [List.take_add_one, getD_get' (z := 0) hlt]; rfl]
  by_cases e : b = nw.refs.getD i 0
  ·rw [if_pos e, if_pos (by rw [e]; simp), e]; rfl
  ·rw [if_neg e]
   by_cases h : b ∈ nw.refs.take i
   ·rw [if_pos h, if_pos (List.mem_append.2 (.inl h))]
   ·rw [if_neg h, if_neg fun h' => by
     rcases List.mem_append.1 h' with h' | h'
     ·exact h h'
     ·exact e (List.mem_singleton.1 h')]
 rw [hstep] at f2
 refine .region (.add rfl rfl rfl (.mv rfl rfl (.nil ?_)))
 rw [wI (by omega)]
 exact ⟨rfl, i + 1, look_cons rfl (look_cons rfl (look_cons rfl (look_cons rfl (look_cons rfl look_nil)))), ⟨u2.below hW hgb, hlt, ER.upd eM hu u2 (fun h => h.2 rfl), f2⟩, by show nw.refs.length - (i + 1) < nw.refs.length - i; omega⟩
end Go.Proofs.YthjnmfemndfijaaGreat

namespace Go.Kx
open Go Go.RowKit
theorem FB.new {α : Type} {E : ER α} {t : TypeId} {S : Nat → Prop} {w w1 w2 : World} {g b : Nat} {l : List α} (h : FB E t S w g l) (e : Ext w w1) (u : Upd w1 w2 b) (hb : w.heap.size ≤ b) : FB E t S w2 g l := by
 have h1 := h.mono (S' := fun k => S k ∧ k < w.heap.size) fun k hk hS => ⟨hS, hk⟩
 have hg := h.lt
 have h2 := (h1.ext e).upd u (by omega) fun hS => by have := hS.2; omega
 exact h2.mono fun k _ hS => hS.1
theorem tab_zero (n : Nat) : tab n (fun _ => 0) = List.replicate n q0 := by
 unfold tab
 simp [qc_zero, List.map_const']
end Go.Kx
namespace Go.Proofs.YthjnmfemndfijaaGreat
open Go Go.Kx Go.RowKit
theorem g_on {n : NtV} {o : List Int} {k : Nat} (hko : k ∉ oN o) : (nwOf n o).g k = ((n.ls.getD k ln0).x : Rat)⁻¹ := by
 show (if k ∈ oN o then (0 : Rat) else ((n.ls.getD k ln0).x : Rat)⁻¹) = _
 rw [if_neg hko]
theorem mem_inL {n : NtV} {o : List Int} {k : Nat} : k ∈ inL n o ↔ k < n.ls.length ∧ k ∉ oN o := by
 unfold inL freeTo
 rw [List.mem_filter, List.mem_range]
 simp
theorem fl_tab {n : NtV} {o : List Int} (ok : nwOk n o) (θ : Nat → Rat) : tab n.ls.length (fun k => if k ∈ inL n o then (nwOf n o).fl θ k else 0) = tab n.ls.length ((nwOf n o).fl θ) := tab_congr fun k hk => by
 by_cases h : k ∈ inL n o
 ·rw [if_pos h]
 ·rw [if_neg h, Nw.fl_out ((ok.g0 hk).2 (Classical.byContradiction fun h' => h (mem_inL.2 ⟨hk, h'⟩)))]
theorem take_tab {l : List Nat} {M i : Nat} {f : Nat → Rat} (hi : i < l.length) : (tab M fun k => if k ∈ l.take i then f k else 0).set (l.getD i 0) (qc (f (l.getD i 0))) = tab M fun k => if k ∈ l.take (i + 1) then f k else 0 := by
 rw [tab_set]
 refine tab_congr fun k _ => ?_
 rw [show l.take (i + 1) = l.take i ++ [l.getD i 0] by rw [List.take_add_one, getD_get' (z := 0) hi]; rfl]
 by_cases e : k = l.getD i 0
 ·rw [if_pos e, if_pos (by rw [e]; simp), e]
 ·rw [if_neg e]
  by_cases h : k ∈ l.take i
  ·rw [if_pos h, if_pos (List.mem_append.2 (.inl h))]
  ·rw [if_neg h, if_neg fun h' => by
    rcases List.mem_append.1 h' with h' | h'
    ·exact h h'
    ·exact e (List.mem_singleton.1 h')]
theorem E_col : Ent Tryz.prog 99 := ent_of Tryz.func99 (by kernel_rfl) rfl
theorem col_c {S : Nat → Prop} {w : World} {s vl vi x : Value} {n : NtV} {o : List Int} {m : List (List QV)} {L b b2 b6 b9 : Nat} (up : Up S w) (ok : nwOk n o) (k2 : Blk w b2 40 #[x, s]) (hs : eLs.R S w s n.ls) (k6 : Blk w b6 41 #[vl]) (hl : eI.R S w vl (pInts (inL n o)))
  (k9 : Blk w b9 22 #[vi]) (hi : eM.R S w vi m) (hk : mk_ L m) (hL : 1 ≤ L) (hL2 : L ≤ 1000000000) :
  CR Tryz.prog 99 #[.int .i64 (b : Nat), .pointer (some ⟨b2, 0, none⟩), .pointer (some ⟨b6, 0, none⟩), .pointer (some ⟨b9, 0, none⟩)] w (eV.at S (tab n.ls.length ((nwOf n o).fl fun c => rm m c b))) := by
 have hM10 : n.ls.length ≤ 10 := ok.m
 have hll := inL_len n o
 generalize hθ : (fun c => rm m c b) = θ
 refine enter Tryz.func99 rfl Tryz.ntmps99 rfl ?_
 refine .seq (.region (.asg rfl rfl (.nil (.seq (.region (.fa fld_N1 rfl rfl (.ld ty_Ls rfl rfl k2 rfl (.lenR un_Ls rfl rfl hs ?_))))))))
 refine .make_ _ _ un_V info_Q rfl (by decide) rfl rfl rfl (Nat.le_refl _) (by omega) (by omega) fun w1 h n1 => .asg rfl rfl (.nil ?_)
 have f1 : FB eQ 32 S w1 h (List.replicate n.ls.length q0) := FB.made n1 zq_R
 obtain ⟨e1, _, hh, hs1⟩ := n1
 rw [← tab_zero] at f1
 have hlW : ∀ {W : World}, Ext w W → eI.R S W vl (pInts (inL n o)) := fun e => ER.ext eI hl e
 refine .seq (.seq (.region (.ld ty_I rfl rfl (k6.ext e1) rfl (.lenR un_I rfl rfl (hlW e1) (.mv rfl rfl (.nil ?_))))))
 rw [show (pInts (inL n o)).length = (inL n o).length by simp]
 refine .block (.loop (α := Nat) (fun i => [(0, .int .i64 (b : Nat)), (1, .pointer (some ⟨b2, 0, none⟩)), (2, .pointer (some ⟨b6, 0, none⟩)), (3, .pointer (some ⟨b9, 0, none⟩)), (6, slB n.ls.length h), (15, vl), (16, .int .i64 ((inL n o).length : Nat)), (17, .int .i64 (i : Nat))]) (fun i W => Ext w W ∧ i ≤ (inL n o).length ∧ FB eQ 32 S W h (tab n.ls.length fun k => if k ∈ (inL n o).take i then (nwOf n o).fl θ k else 0)) (fun i => (inL n o).length - i) 0 ?_ ?_ ?_)
 ·exact look_cons rfl (look_cons rfl (look_cons rfl (look_cons rfl (look_cons rfl (look_cons rfl (look_cons rfl (look_cons rfl look_nil)))))))
 ·exact ⟨e1, Nat.zero_le _, by simpa using f1⟩
 rintro i W ⟨hW, hi', fb⟩
 have hWs := hW.size
 have hhl := fb.lt
 refine .seq (.region ?_)
 rcases Nat.lt_or_ge i (inL n o).length with hlt | hge
 rotate_left
 ·refine .lssF rfl rfl rfl (by omega) (.nil (.seq (.condF rfl (.exit (.seq (.region (.mv rfl rfl (.asg rfl rfl (.nil (.ret ?_))))))))))
  have : i = (inL n o).length := by omega
  subst this
  rw [List.take_of_length_le (Nat.le_refl _), fl_tab ok] at fb
  refine .plain [_] Tryz.results99 ⟨rfl, trivial⟩ ⟨hW, ?_⟩
  have := fb.toR (hsz := by decide) (c := n.ls.length) (up h (by omega)) (by rw [tab_length]; exact Nat.le_refl _) (by rw [tab_length]; omega)
  rw [tab_length] at this
  exact this
 obtain ⟨hgk, hkM, hko⟩ := inL_get hlt
 refine .lssT rfl rfl rfl (by omega) (.nil (.seq (.condT rfl (.skip (.seq (.block (.seq (.region (.ixN (i := i) un_I ty_I1 rfl rfl (hlW hW) rfl hgk fun q hq => .ldE (E := eInt .i64) ty_I1 rfl rfl hq fun e he => .asg rfl rfl (.nil ?_))))))))))
 obtain ⟨rfl, _⟩ := he
 have hset := take_tab (M := n.ls.length) (f := (nwOf n o).fl θ) hlt
 have hgl : n.ls[(inL n o).getD i 0]? = some (n.ls.getD ((inL n o).getD i 0) ln0) := getD_get' hkM
 have hFI := ok.fI _ hkM
 have hTI := ok.tI _ hkM
 have hx := ok.x _ hkM
 have hgv := g_on (n := n) hko
 generalize hkk : (inL n o).getD i 0 = k at hset hgl hFI hTI hx hgv hkM
 generalize hln : n.ls.getD k ln0 = ln at hgl hFI hTI hx hgv
 refine .seq (.region (.fa fld_N1 rfl rfl (.ld ty_Ls rfl rfl (k2.ext hW) rfl (.mv rfl rfl (.ixN (i := k) un_Ls ty_Ln rfl rfl (hs.ext hW) rfl hgl fun q hq => .ldE (E := eL) ty_Ln rfl rfl hq fun vl' hvl => .alloc rfl zero_Ln fun W1 c9 n1' => ?_)))))
 obtain ⟨g1, k9', hc9, hs1'⟩ := n1'
 refine .storeA (E := eL) (S := fun k => k ≠ c9) (z := ln) ty_Ln rfl rfl k9' rfl rfl hvl (fun h => h rfl) fun W2 k9' u2 hl2 => .nil ?_
 obtain ⟨rfl, _⟩ := hl2
 rw [hFI, hTI] at k9'
 replace k9' : Blk W2 c9 58 #[.int .i64 ((nwOf n o).F k : Nat), .int .i64 ((nwOf n o).T k : Nat), .int .i64 ln.x, .int .i64 ln.c] := k9'
 have x2 : Ext W W2 := u2.below g1 (by omega)
 have hs2 := u2.size
 have fb := fb.new g1 u2 (by omega)
 have hW2 := hW.trans x2
 have upT : ∀ {W' : World}, W2.heap.size ≤ W'.heap.size → Up (fun k => S k ∧ k ≠ h) W' := fun hs k' hk' => ⟨up k' (by omega), by omega⟩
 have hmi : ∀ {W' : World}, Ext W2 W' → eM.R (fun k => S k ∧ k ≠ h) W' vi m := fun e => ER.ext eM (eM.mono (fun k' _ hk' => ⟨hk'.1, by have := hk'.2; omega⟩) (ER.ext eM (ER.lt eM hi) hW2)) e
 have hat : ∀ c : Nat, rmI m c b = θ c := fun c => by rw [rmI_nat, ← hθ]
 have hrz : ∀ c, Rsz (θ c) L := fun c => by rw [← hθ]; exact hk.rsz hL c b
 refine .seq ?_
 refine .par follows 12 [.inl vi, .inl (.pointer (some ⟨c9, 0, none⟩)), .inl (.int .i64 ((nwOf n o).F k : Nat)), .inl (.int .i64 (b : Nat)), .inr (eQ.at (fun k => S k ∧ k ≠ h) (qc (θ ((nwOf n o).F k)))), .inl vi, .inl (.pointer (some ⟨c9, 1, none⟩)), .inl (.int .i64 ((nwOf n o).T k : Nat)), .inl (.int .i64 (b : Nat)), .inr (eQ.at (fun k => S k ∧ k ≠ h) (qc (θ ((nwOf n o).T k)))), .inr (eQ.at (fun k => S k ∧ k ≠ h) (qc (θ ((nwOf n o).F k) - θ ((nwOf n o).T k)))), .inr (NewP W2.heap.size 32 zq.cells)]
  [[], [], [(27, 1)], [], [(26, 0), (28, 2), (29, 3)], [], [], [(32, 6)], [], [(31, 5), (33, 7), (34, 8)], [(30, 4), (35, 9)], []] (by kernel_rfl) ⟨
  fun w e => (v_ld ty_M rfl ((k9.ext hW2).ext e) rfl).ob, fun w e => (v_fa fld_Ln0 rfl).ob, fun w e => (v_ld ty_int rfl (k9'.ext e) rfl).ob, fun w e => (v_mv rfl).ob,
  fun w e => by
   have := mat_At_c (i := ((nwOf n o).F k : Nat)) (k := (b : Nat)) (upT e.size) (hmi e) hk hL (by omega)
   rw [hat] at this
   exact (g_call _ E_mat_At rfl this).ob (st_at _ _ _),
  fun w e => (v_ld ty_M rfl ((k9.ext hW2).ext e) rfl).ob, fun w e => (v_fa fld_Ln1 rfl).ob, fun w e => (v_ld ty_int rfl (k9'.ext e) rfl).ob, fun w e => (v_mv rfl).ob,
  fun w e => by
   have := mat_At_c (i := ((nwOf n o).T k : Nat)) (k := (b : Nat)) (upT e.size) (hmi e) hk hL (by omega)
   rw [hat] at this
   exact (g_call _ E_mat_At rfl this).ob (st_at _ _ _),
  fun w e x hx y hy => by
   have := frac_Sub_c (L := L) (upT e.size) hx hy (hrz _).toOk (hrz _).toOk hL (by omega)
   rw [qval_qc, qval_qc] at this
   exact (g_call _ E_frac_Sub rfl this).ob (st_at _ _ _),
  fun w e => ob_alloc zero_Q e.size, trivial⟩ ?_
 rintro W3 g3 _ _ _ _ y10 hy10 _ ⟨c10, rfl, hc10, k10⟩
 have hy10' := eQ_sep hy10 k10 zeroQ_sep
 refine .storeA (E := eQ) ty_Q rfl rfl k10 rfl rfl hy10' (fun h => h.2 rfl) fun W4 k10 u4 hy => .nil ?_
 have hs3 := g3.size
 have hs4 := u4.size
 have x4 : Ext W2 W4 := u4.below g3 hc10
 have hy : eQ.R (fun k => S k ∧ k ≠ h) W4 y10 _ := eQ.mono (fun _ _ h => h.1) hy
 have hyv := shpA (E := eQ) rfl hy
 have fb := fb.new g3 u4 hc10
 have hd : Rsz (θ ((nwOf n o).F k) - θ ((nwOf n o).T k)) (L + L + 1) := by
  rw [Rat.sub_eq_add_neg]
  exact (hrz _).add (hrz _).neg
 have hx0 : ((ln.x : Int) : Rat) ≠ 0 := fun e => by
  have : ln.x = 0 := by exact_mod_cast e
  omega
 have hflv : (θ ((nwOf n o).F k) - θ ((nwOf n o).T k)) / ((ln.x : Int) : Rat) = (nwOf n o).fl θ k := by
  unfold Nw.fl
  rw [hgv, Rat.div_def, Rat.mul_comm]
 have hr1 : Rsz ((ln.x : Int) : Rat) (L + L + 1) := Rsz.int _ (Nat.lt_of_lt_of_le (by omega : ln.x.natAbs < 4294967296 ^ 1) (Nat.pow_le_pow_right (by decide) (by omega))) (by omega)
 refine .parL follows 10 [9] [.inl (slB n.ls.length h), .inl (.int .i64 (k : Nat)), .inl y10, .inl (.pointer (some ⟨c9, 2, none⟩)), .inl (.int .i64 ln.x), .inr (eQ.at (fun k => S k ∧ k ≠ h) (qc ((ln.x : Int) : Rat))), .inr (Two (eQ.at (fun k => S k ∧ k ≠ h) (qc ((nwOf n o).fl θ k))) (Is (.int .i64 0))), .inr (Two (eQ.at (fun k => S k ∧ k ≠ h) (qc ((nwOf n o).fl θ k))) (Is (.int .i64 0))), .inr (eQ.at (fun k => S k ∧ k ≠ h) (qc ((nwOf n o).fl θ k))), .inl (.int .i64 0)]
  [[], [], [], [], [(41, 3)], [(42, 4)], [(40, 2), (43, 5)], [(44, 6)], [(37, 7)], [(37, 7)]] (by kernel_rfl) ⟨
  fun w e => (v_mv rfl).ob, fun w e => (v_mv rfl).ob, fun w e => ((v_ldA ty_Q rfl (k10.ext e) (eQ.csz hy)).eq hyv.symm).ob, fun w e => (v_fa fld_Ln2 rfl).ob, fun w e => (v_ld ty_i64 rfl ((k9'.ext x4).ext e) rfl).ob,
  fun w e => (g_call _ E_frac_FromInt64 rfl (frac_FromInt64_c (upT (by have := e.size; omega)) (by omega) (by omega))).ob (st_at _ _ _),
  fun w e x hx => by
   have := frac_Div_c (L := L + L + 1) (upT (by have := e.size; omega)) (ER.ext eQ hy e) hx hd.toOk hr1.toOk (by omega) (by omega) (by rw [qval_qc]; exact hx0)
   rw [qval_qc, qval_qc, hflv] at this
   exact (g_call _ E_frac_Div rfl this).ob (st_two (st_at _ _ _) (st_is _)),
  fun w e x hx => ob_vl (v_mv rfl) hx (st_two (st_at _ _ _) (st_is _)),
  fun w e x hx => by
   obtain ⟨a, b, rfl, ha, hb⟩ := hx
   exact ob_vl (v_ex rfl rfl) ha (st_at _ _ _),
  fun w e x hx => by
   obtain ⟨a, b, rfl, ha, hb⟩ := hx
   exact ((v_ex rfl rfl).eq hb).ob, trivial⟩ ?_
 intro W5 g5 _ _ _ _ _ _ y8 hy8
 refine .ixB (i := k) un_V ty_Q rfl rfl rfl hkM (.storeF (E := eQ) (i := k) (by decide) ty_Q rfl rfl (fb.ext g5) rfl (by rw [tab_length]; exact hkM) (Nat.zero_add _) hy8 fun W6 f6 u6 => .nil ?_)
 rw [hset] at f6
 refine .region (.add rfl rfl rfl (.mv rfl rfl (.nil ?_)))
 rw [wI (by omega)]
 exact ⟨rfl, i + 1, look_cons rfl (look_cons rfl (look_cons rfl (look_cons rfl (look_cons rfl (look_cons rfl (look_cons rfl (look_cons rfl look_nil))))))), ⟨u6.below ((hW2.trans x4).trans g5) (by omega), hlt, f6⟩, by show (inL n o).length - (i + 1) < (inL n o).length - i; omega⟩
end Go.Proofs.YthjnmfemndfijaaGreat

namespace Go.Kx
open Go Go.RowKit
section
variable {P : Program} {σ : Env} {w : World} {ty : TypeId} {pos : String} {af : Array Edge}
theorem v_ixA {dd : Option Tmp} {gd : Option (Nat × Bool)} {t e : TypeId} {x ix : Operand} {k : IntKind} {i sz n c : Nat} {b : Bool} {ad : Addr} (ht : P.underlying t = some (.slice e)) (he : tyOf P e = some (b, sz)) (hx : ev σ x = some (.slice (some ad) n c))
  (hi : ev σ ix = some (.int k (i : Int))) (hlt : i < n) : Vl P ⟨dd, .indexAddr t x ix, ty, pos, af, gd⟩ σ w (.pointer (some (ad.add (i * sz)))) := by
 refine ⟨(by intro _ h; cases h), fun ρ hρ => ?_⟩
 have h1 := hρ x _ (by simp [Op.operands]) hx
 have h2 := hρ ix _ (by simp [Op.operands]) hi
 simp [execOp, h1, h2, Instr.indexAt, asIntOf, run_underlying ht, (tyOf_agg he w).2]
 intro hh; omega
end
/-- an element of a row, wherever the world goes on -/
theorem rd_elem {α : Type} {E : ER α} {hsz : 0 < E.sz} {S : Nat → Prop} {w : World} {v : Value} {l : List α} {i : Nat} {q : α} (h : (RL E hsz).R S w v l) (hq : l[i]? = some q) : ∃ ad c e, v = .slice (some ad) l.length c ∧ ∀ W', Below w.heap.size w W' → PtrX W' (ad.add (i * E.sz)) e ∧ E.R (fun k => S k ∧ k < w.heap.size) W' e q := by
 obtain ⟨es, hE⟩ := RL.toEs h
 have hil := (List.getElem?_eq_some_iff.1 hq).1
 obtain ⟨e, he⟩ : ∃ e, es[i]? = some e := ⟨_, List.getElem?_eq_getElem (by rw [hE.1.1]; exact hil)⟩
 obtain ⟨ad, c, hv, hp⟩ := hE.at_ he
 have hr := hE.1.2 i e q he hq
 refine ⟨ad, c, e, hv, fun W' hB => ⟨fun j u hu => ?_, E.keep (fun k c t f hk h => (hB.block k hk.2).trans h) (ER.lt E hr)⟩⟩
 have h1 := hp j u hu
 have hl := cell_lt h1
 rw [cell_same (hB.block _ hl)]
 exact h1
theorem set_mid {α : Type} (l r : List α) (v x : α) : (l ++ v :: r).set l.length x = l ++ x :: r := by
 rw [List.set_append_right _ _ (Nat.le_refl _), Nat.sub_self, List.set_cons_zero]
theorem get_mid {α : Type} (l r : List α) (v : α) : (l ++ v :: r)[l.length]? = some v := by
 rw [List.getElem?_append_right (Nat.le_refl _), Nat.sub_self]; rfl
end Go.Kx
namespace Go.Proofs.YthjnmfemndfijaaGreat
open Go Go.Kx Go.RowKit
theorem E_transpose : Ent Tryz.prog 102 := ent_of Tryz.func102 (by kernel_rfl) rfl
theorem transpose_c {S : Nat → Prop} {w : World} {vc : Value} {B M : Nat} {g : RM} (up : Up S w) (hc : eM.R S w vc (tabM B M g)) (hB : B ≤ 1000) (hM : M ≤ 1000) :
  CR Tryz.prog 102 #[vc, .int .i64 (M : Nat)] w (eM.at S (tabM M B fun i c => g c i)) := by
 have hcW : ∀ {W : World}, Below w.heap.size w W → eM.R (fun k => S k ∧ k < w.heap.size) W vc (tabM B M g) := fun h => eM.keep (fun k c t f hk hh => (h.block k hk.2).trans hh) (ER.lt eM hc)
 refine enter Tryz.func102 rfl Tryz.ntmps102 rfl ?_
 refine .seq (.region (.asg rfl rfl (.nil (.seq (.region (.mv rfl rfl ?_))))))
 refine .make_ M M un_M info_V rfl (by decide) rfl rfl rfl (Nat.le_refl _) (by omega) (by omega) fun w1 gb n1 => .asg rfl rfl (.nil ?_)
 obtain ⟨e1, k1, hgb, hs1⟩ := n1
 generalize hF : (fun i => tab B fun c => g c i) = F
 refine .seq (.seq (.region (.mv rfl rfl (.len un_M rfl rfl (.mv rfl rfl (.nil ?_))))))
 refine .block (.loop (α := List Value) (fun rs => [(0, vc), (5, .slice (some ⟨gb, 0, none⟩) M M), (12, .int .i64 (M : Nat)), (13, .int .i64 (rs.length : Nat))]) (fun rs W => Below w.heap.size w W ∧ rs.length ≤ M ∧ Blk W gb 46 (cellsOf (rs ++ List.replicate (M - rs.length) nilV)).toArray ∧ Els eV (fun k => S k ∧ k ≠ gb) W rs ((List.range rs.length).map F)) (fun rs => M - rs.length) [] ?_ ?_ ?_)
 ·exact look_cons rfl (look_cons rfl (look_cons rfl (look_cons rfl look_nil)))
 ·exact ⟨e1, Nat.zero_le _, k1, Els.nil⟩
 rintro rs W ⟨hW, hi, hO, hels⟩
 have hWs := hW.size
 have hgl := hO.lt
 refine .seq (.region ?_)
 rcases Nat.lt_or_ge rs.length M with hlt | hge
 rotate_left
 ·refine .lssF rfl rfl rfl (by omega) (.nil (.seq (.condF rfl (.exit (.seq (.region (.mv rfl rfl (.asg rfl rfl (.nil (.ret ?_))))))))))
  have hl : rs.length = M := by omega
  rw [hl, Nat.sub_self, List.replicate_zero, List.append_nil] at hO
  rw [hl] at hels
  refine .plain [_] Tryz.results102 ⟨rfl, trivial⟩ ⟨hW, ?_⟩
  have hfb : FB eV 46 S W gb (tabM M B fun i c => g c i) := ⟨rs, hO, by unfold tabM; rw [hF]; exact hels⟩
  have := hfb.toR (hsz := by decide) (c := M) (up gb (by omega)) (by rw [tabM_length]; exact Nat.le_refl _) (by rw [tabM_length]; omega)
  rw [tabM_length] at this
  exact this
 have hrep : rs ++ List.replicate (M - rs.length) nilV = rs ++ nilV :: List.replicate (M - (rs.length + 1)) nilV := by rw [show M - rs.length = M - (rs.length + 1) + 1 by omega, List.replicate_succ]
 rw [hrep] at hO
 refine .lssT rfl rfl rfl (by omega) (.nil (.seq (.condT rfl (.skip (.seq (.block (.seq (.region (.mv rfl rfl (.asg rfl rfl (.nil (.seq (.region (.mv rfl rfl (.lenR un_M rfl rfl (hcW hW) (.mv rfl rfl (.nil ?_)))))))))))))))))
 rw [tabM_length]
 refine .block (.loop (α := Nat × Value) (fun y => [(0, vc), (5, .slice (some ⟨gb, 0, none⟩) M M), (12, .int .i64 (M : Nat)), (13, .int .i64 (rs.length : Nat)), (6, .int .i64 (rs.length : Nat)), (16, vc), (17, .int .i64 (B : Nat)), (18, .int .i64 (y.1 : Nat))])
  (fun y W' => Below w.heap.size w W' ∧ W.heap.size ≤ W'.heap.size ∧ y.1 ≤ B ∧ Blk W' gb 46 (cellsOf (rs ++ y.2 :: List.replicate (M - (rs.length + 1)) nilV)).toArray ∧ Kp (fun k => k < W.heap.size ∧ k ≠ gb) W W' ∧ OwnL eQ 32 W.heap.size (fun k => S k ∧ k ≠ gb) W' y.2 (tab y.1 fun c => g c rs.length)) (fun y => B - y.1) (0, nilV) ?_ ?_ ?_)
 ·exact look_cons rfl (look_cons rfl (look_cons rfl (look_cons rfl (look_cons rfl (look_cons rfl (look_cons rfl (look_cons rfl look_nil)))))))
 ·exact ⟨hW, Nat.le_refl _, Nat.zero_le _, hO, fun _ _ _ _ _ h => h, OwnL.nil⟩
 rintro ⟨j, v⟩ W' ⟨hW', hsz, hj, hO, hK, hown⟩
 replace hW' : Below w.heap.size w W' := hW'
 replace hj : j ≤ B := hj
 replace hO : Blk W' gb 46 (cellsOf (rs ++ v :: List.replicate (M - (rs.length + 1)) nilV)).toArray := hO
 replace hown : OwnL eQ 32 W.heap.size (fun k => S k ∧ k ≠ gb) W' v (tab j fun c => g c rs.length) := hown
 refine .seq (.region ?_)
 rcases Nat.lt_or_ge j B with hjl | hge
 rotate_left
 ·refine .lssF rfl rfl rfl (by omega) (.nil (.seq (.condF rfl (.exit (.region (.add rfl rfl rfl (.mv rfl rfl (.nil ?_))))))))
  rw [wI (by omega)]
  have : j = B := by omega
  subst this
  refine ⟨rfl, rs ++ [v], look_cons rfl (look_cons rfl (look_cons rfl (look_cons (by rw [List.length_append]; rfl) look_nil))), ⟨hW', by rw [List.length_append]; exact hlt, ?_, ?_⟩, by rw [List.length_append]; show M - (rs.length + 1) < M - rs.length; omega⟩
  ·rw [List.length_append, List.append_assoc]
   exact hO
  ·rw [List.length_append]
   show Els eV _ W' (rs ++ [v]) ((List.range (rs.length + 1)).map F)
   rw [List.range_succ, List.map_append]
   have h1 : Els eV (fun k => S k ∧ k ≠ gb) W' rs ((List.range rs.length).map F) := ⟨hels.1, fun i e x he hx => by
    have h2 := ER.lt eV (hels.2 i e x he hx)
    have h3 := eV.keep (fun k c t f hk hc => hK k c t f ⟨hk.2, hk.1.2⟩ hc) h2
    exact eV.mono (fun k _ h => h.1) h3⟩
   refine h1.snoc ?_
   rw [← hF]
   exact hown.toR (fun k hk => ⟨up k (by omega), by omega⟩) (fun _ h => h)
 refine .lssT rfl rfl rfl (by omega) (.nil (.seq (.condT rfl (.skip (.seq (.block (.seq (.region ?_))))))))
 obtain ⟨adc, cc, ec, hvc, hrc⟩ := rd_elem (E := eV) (i := j) hc (tabM_get hjl)
 obtain ⟨hpc, hec⟩ := hrc w (Below.refl _ _)
 obtain ⟨ade, ce, ee, hve, hre⟩ := rd_elem (E := eQ) (i := rs.length) hec (tab_get hlt)
 obtain ⟨esC, hEC⟩ := RL.toEs (hcW hW')
 rw [tab_length] at hve
 have hgc : ∃ p, PtrX W' p ec := ⟨_, (hrc W' hW').1⟩
 rw [tabM_length] at hvc
 subst hvc
 refine .gv rfl rfl (v_ixA (i := j) (sz := 1) un_M ty_V rfl rfl hjl).gv ?_
 rintro _ _ ⟨rfl, rfl⟩
 refine .ldX (E := eV) ty_V rfl rfl (hrc _ hW').1 (hrc _ hW').2 (.asg rfl rfl (.nil ?_))
 subst hve
 have hesz : ∀ {v : Value}, v.cells.size = 1 → ∀ e ∈ rs ++ v :: List.replicate (M - (rs.length + 1)) nilV, e.cells.size = 1 := fun hv e he => by
  rcases List.mem_append.1 he with h | h
  ·exact hels.sz e h
  ·rcases List.mem_cons.1 h with h | h
   ·rw [h]; exact hv
   ·rw [(List.mem_replicate.1 h).2]; rfl
 obtain ⟨av, cv, hvv⟩ := hown.slice
 have hv1 : v.cells.size = 1 := by rw [hvv]; rfl
 have hcell : (cellsOf (rs ++ v :: List.replicate (M - (rs.length + 1)) nilV)).toArray[0 + rs.length * 1]? = some v := by
  have := cellsOf_get _ rs.length 0 v (hesz hv1) (get_mid _ _ _) (by decide)
  rw [List.getElem?_toArray, show 0 + rs.length * 1 = rs.length * 1 + 0 by omega, this, hvv]; rfl
 have hee : ∀ W', Below w.heap.size w W' → PtrX W' (ade.add (rs.length * 4)) ee ∧ eQ.R (fun k => (S k ∧ k < w.heap.size) ∧ k < w.heap.size) W' ee (qc (g j rs.length)) := hre
 refine .held follows true (fun W2 => Blk W2 gb 46 (cellsOf (rs ++ v :: List.replicate (M - (rs.length + 1)) nilV)).toArray ∧ Below w.heap.size w W2)
  [some (.slice (some ⟨gb, 0, none⟩) M M), some (.int .i64 (rs.length : Nat)), some (.slice (some ⟨gb, 0, none⟩) M M), some (.int .i64 (rs.length : Nat)), some (.pointer (some ⟨gb, 0 + rs.length * 1, none⟩)), some v, some (.slice (some ade) M ce), some (.int .i64 (rs.length : Nat)), some (.pointer (some (ade.add (rs.length * 4)))), some ee, none, none, none, none] (by kernel_rfl)
  ⟨fun _ _ => v_mv rfl, fun _ _ => v_mv rfl, fun _ _ => v_mv rfl, fun _ _ => v_mv rfl, fun _ _ => v_ixB (i := rs.length) un_M ty_V rfl rfl hlt, fun _ h => v_ld ty_V rfl h.1 hcell, fun _ _ => v_mv rfl, fun _ _ => v_mv rfl, fun _ _ => v_ixA (i := rs.length) un_V ty_Q rfl rfl hlt, fun _ h => v_ldX (E := eQ) ty_Q rfl (hee _ h.2).1 (hee _ h.2).2, trivial⟩ ?_
 intro W2 e2 _
 have hW2 : Below w.heap.size w W2 := hW'.trans (e2.mono hW'.size)
 have hO := hO.ext e2
 have hown := hown.ext e2
 obtain ⟨_, hr2⟩ := hee W2 hW2
 have hr2' := hr2
 obtain ⟨s2, t2, rfl, _, _⟩ := hr2'
 refine .gv ⟨hO, hW2⟩ rfl (g_bsl _ rfl bsl_V1) ?_
 rintro _ W3 ⟨b3, rfl, n3⟩
 obtain ⟨e3, k3, hb3, hs3⟩ := n3
 have hW3 : Below w.heap.size w W3 := hW2.trans (e3.mono hW2.size)
 have hO := hO.ext e3
 have hown := hown.ext e3
 have hs2 := e2.size
 obtain ⟨es, ho1, _⟩ := id hown
 refine .gv ⟨hO, hW3⟩ rfl (g_appL (E := eQ) (base := W.heap.size) (by decide) un_V info_Q rfl rfl rfl hown k3 (eQ.mono (fun k _ h => ⟨⟨h.1.1, by have := h.2; omega⟩, fun e => by have := (ho1.lt k e).1; have := h.2; omega⟩) (hr2.ext e3)) (by rw [tab_length]; omega) (by decide) (by omega)) ?_
 rintro v4 W4 ⟨ho4, hg4⟩
 have hO4 := hown.gblk hg4 hO (by decide)
 have hlow4 : Below w.heap.size w W4 := by
  have hK4 := hown.below (w0 := W3) hg4 (Below.refl _ _) (by omega)
  exact hW3.trans (hK4.mono (by omega))
 refine .gv ⟨hO4, hlow4⟩ rfl (v_ixB (i := rs.length) un_M ty_V rfl rfl hlt).gv ?_
 rintro _ _ ⟨rfl, rfl⟩
 obtain ⟨a4, c4, hv4⟩ := ho4.slice
 have hv41 : v4.cells.size = 1 := by rw [hv4]; rfl
 refine .gv ⟨hO4, hlow4⟩ rfl (g_storeC (i := rs.length) (by decide) ty_V rfl rfl hO4 (hesz hv1) hv41 (by rw [hv4]; simp [one1, Value.cells]) (by simp) (Nat.zero_add _)) ?_
 rintro _ W5 ⟨hO5, u5⟩
 rw [set_mid] at hO5
 refine .nil (.inl rfl) ?_
 have hs4 := hg4.size
 have hs5 := u5.size
 refine .region (.add rfl rfl rfl (.mv rfl rfl (.nil ?_)))
 rw [wI (by omega)]
 refine ⟨rfl, (j + 1, v4), look_cons rfl (look_cons rfl (look_cons rfl (look_cons rfl (look_cons rfl (look_cons rfl (look_cons rfl (look_cons rfl look_nil))))))), ⟨u5.below hlow4 (by omega), by show W.heap.size ≤ W5.heap.size; omega, hjl, hO5, ?_, ?_⟩, by show B - (j + 1) < B - j; omega⟩
 ·intro k c t f hk hc
  have h1 := hK k c t f hk hc
  have h2 := (e3.block k (by have := (Array.getElem?_eq_some_iff.1 h1).1; omega)).trans ((e2.block k (Array.getElem?_eq_some_iff.1 h1).1).trans h1)
  have h3 := (hg4.block k (by have := (Array.getElem?_eq_some_iff.1 h2).1; omega) (fun e => by have := (ho1.lt k e.symm).1; have := hk.1; omega)).trans h2
  exact (u5.block k hk.2).trans h3
 ·have := ho4.upd u5 hO4 (by decide) (fun h => h.2 rfl)
  have e : tab (j + 1) (fun c => g c rs.length) = tab j (fun c => g c rs.length) ++ [qc (g j rs.length)] := by unfold tab; rw [List.range_succ, List.map_append]; rfl
  show OwnL eQ 32 W.heap.size _ W5 v4 (tab (j + 1) fun c => g c rs.length)
  rw [e]
  exact this
end Go.Proofs.YthjnmfemndfijaaGreat

namespace Go.Kx
open Go Go.RowKit
def Nw.gA (n : Nw) : List (List QV) := tabM n.B n.B n.gm
/-- the angles if 1 is put in at bus b -/
def Nw.th (n : Nw) (b c : Nat) : Rat := rm (invM n.gA) c b
/-- the factors -/
def Nw.hf (n : Nw) (k b : Nat) : Rat := n.fl (n.th b) k
end Go.Kx
namespace Go.Proofs.YthjnmfemndfijaaGreat
open Go Go.Kx Go.RowKit
section
variable {n : Nw}
theorem gA_len : n.gA.length = n.B := tabM_length ..
theorem gA_cols (hB : 1 ≤ n.B) : colsOf n.gA = n.B := by unfold Nw.gA; rw [cols_tabM, if_neg (by omega)]
theorem rm_gA {i k : Nat} (hi : i < n.B) (hk : k < n.B) : rm n.gA i k = n.gm i k := by unfold Nw.gA; rw [rm_tabM, if_pos ⟨hi, hk⟩]
theorem gA_inv (ok : n.Ok) (hB : 1 ≤ n.B) : invertible n.gA := by
 have hc := gA_cols hB
 rw [inv_rank (by rw [hc, gA_len]), gA_len]
 have h1 := free_rank n.gA
 rw [hc] at h1
 rcases Nat.eq_zero_or_pos (nullM n.gA).length with h0 | hp
 ·omega
 exfalso
 rw [null_length] at hp
 obtain ⟨hk, hkp⟩ := freeC_get hp
 rw [hc] at hk
 have hz := Nw.ker0 (θ := nv (redF n.gA) (redP n.gA) ((freeC n.gA).getD 0 0)) ok (fun b hb => by
  have h2 := null_zero (m := n.gA) (k := (freeC n.gA).getD 0 0) (by rw [hc]; exact hk) b
  rw [hc] at h2
  have h3 := Nw.gm_sum ok (nv (redF n.gA) (redP n.gA) ((freeC n.gA).getD 0 0)) hb
  have h4 : sumN n.B (fun c => rm n.gA b c * nv (redF n.gA) (redP n.gA) ((freeC n.gA).getD 0 0) c) = sumN n.B (fun c => n.gm b c * nv (redF n.gA) (redP n.gA) ((freeC n.gA).getD 0 0) c) := sumN_congr fun c hc' => by rw [rm_gA hb hc']
  rw [← h4, h2] at h3
  split
  ·rw [if_pos (by assumption)] at h3; exact h3.symm
  ·rw [if_neg (by assumption)] at h3; exact h3.symm) _ hk
 rw [nv_self (not_piv hkp)] at hz
 exact absurd hz (by decide)
/-- what the angles satisfy -/
theorem th_eq (ok : n.Ok) (hB : 1 ≤ n.B) {b i : Nat} (hb : b < n.B) (hi : i < n.B) : (if n.root i = i then n.th b i else n.lap (n.th b) i) = dl i b := by
 have h := inv_right (gA_inv ok hB) (i := i) (k := b) (by rw [gA_len]; exact hi) (by rw [gA_len]; exact hb)
 rw [gA_len] at h
 rw [← Nw.gm_sum ok (n.th b) hi]
 have e : sumN n.B (fun c => n.gm i c * n.th b c) = sumN n.B (fun j => rm n.gA i j * rm (invM n.gA) j b) := sumN_congr fun c hc => by rw [rm_gA hi hc]; rfl
 rw [e, h]; rfl
end
theorem gA_mk {n : NtV} {o : List Int} (h : nwOk n o) : mk_ 21 (nwOf n o).gA := mk_tabM fun b c hb hc => by
 unfold Nw.gm
 split
 ·unfold dl
  split
  ·exact rsz1 (by decide)
  ·exact Rsz.zero (by decide)
 ·unfold Nw.Lm
  rw [← Nw.lmL_free (p := oN o) b c _ fun k hk => h.g0 hk]
  refine ((nwOf n o).lmL_rsz (Nat.le_refl _) h.gsz b c _).mono ?_
  have := freeTo_le (oN o) (nwOf n o).M
  have := h.m
  omega
theorem bd216 : bd 21 6 = 87381 := by decide
theorem th_rsz {n : NtV} {o : List Int} (h : nwOk n o) (b c : Nat) : Rsz ((nwOf n o).th b c) 87381 := by
 have := inv_rsz (n := 6) (gA_mk h) (by decide) (by rw [gA_len]; exact h.b6)
 rw [bd216] at this
 exact this.rsz (by decide) c b
theorem fl_rsz {n : NtV} {o : List Int} (h : nwOk n o) {θ : Nat → Rat} {L : Nat} (hθ : ∀ c, Rsz (θ c) L) (k : Nat) : Rsz ((nwOf n o).fl θ k) (2 * L + 2) := by
 unfold Nw.fl
 have h1 := (hθ ((nwOf n o).F k)).add (hθ ((nwOf n o).T k)).neg
 rw [← Rat.sub_eq_add_neg] at h1
 exact ((h.gsz k).mul h1).mono (by omega)
theorem hf_rsz {n : NtV} {o : List Int} (h : nwOk n o) (k b : Nat) : Rsz ((nwOf n o).hf k b) 174764 := fl_rsz h (th_rsz h b) k
end Go.Proofs.YthjnmfemndfijaaGreat

namespace Go.Proofs.YthjnmfemndfijaaGreat
open Go Go.Kx Go.RowKit
theorem hf_mk {n : NtV} {o : List Int} (h : nwOk n o) (M B : Nat) : mk_ 174764 (tabM M B (nwOf n o).hf) := mk_tabM fun k b _ _ => hf_rsz h k b
theorem E_shift_Factors : Ent Tryz.prog 34 := ent_of Tryz.func34 (by kernel_rfl) rfl
theorem shift_Factors_c {S : Nat → Prop} {w : World} {vn vo : Value} {n : NtV} {o : List Int} (up : Up S w) (hn : eN.R S w vn n) (ho : eI.R S w vo o) :
  CR Tryz.prog 34 #[vn, vo] w (Two (eM.at S (if outE n o = 0 then tabM n.ls.length (nwOf n o).B (nwOf n o).hf else [])) (Is (.int .i64 (outE n o)))) := by
 obtain ⟨s, rfl, hs, hb⟩ := hn
 have hn : eN.R S w (.agg #[.int .i64 n.b, s]) n := ⟨s, rfl, hs, hb⟩
 refine enter Tryz.func34 rfl Tryz.ntmps34 rfl ?_
 refine .seq (.region (.box rfl rfl fun w1 b2 n1 => .asg rfl rfl (.asg rfl rfl (.nil ?_))))
 obtain ⟨e1, k2, hb2, hs1⟩ := n1
 refine .seq (.region (.ldA ty_N rfl rfl k2 rfl (.mv rfl rfl ?_)))
 refine .call _ rfl E_net_In rfl (net_In_c (up.ext e1.size) (hn.ext e1) (ho.ext e1)) fun v2 w2 e2 h2 => ?_
 obtain ⟨vl, ve, rfl, hl, he⟩ := h2
 replace he : ve = .int .i64 (outE n o) := he
 subst he
 obtain ⟨al, cl, hvl, _⟩ := RL.len hl
 refine .mv rfl rfl (.ext rfl rfl rfl (.ext rfl rfl rfl (.alloc rfl zero_I fun w3 b6 n3 => ?_)))
 obtain ⟨e3, k6, hb6, hs3⟩ := n3
 refine .store ty_I rfl rfl k6 (by rw [hvl]; rfl) (by simp [Value.cells]) (by rw [hvl]; simp [one1, Value.cells]) fun w4 k6 u4 => .asg rfl rfl (.nil (.seq (.seq (.region (.mv rfl rfl ?_)))))
 replace k6 : Blk w4 b6 41 #[vl] := by rw [hvl] at k6 ⊢; exact k6
 have x2 := e1.trans e2
 have x24 : Ext w2 w4 := u4.below e3 (by omega)
 have x4 := x2.trans x24
 by_cases hE : outE n o = 0
 rotate_left
 ·refine .neqT rfl rfl rfl hE (.nil (.condT rfl (.seq (.region (.mv rfl rfl (.asg rfl rfl (.asg rfl rfl (.nil (.ret ?_)))))))))
  refine .plain [_, _] Tryz.results34 ⟨rfl, rfl, trivial⟩ ⟨x4, _, _, rfl, ?_, rfl⟩
  rw [if_neg hE]; exact RL.nil
 have ok := nw_ok hE
 rw [if_pos hE] at hl ⊢
 have hB1 := ok.b1
 have hB6 := ok.b6
 have hM10 : n.ls.length ≤ 10 := ok.m
 have hnb := ok.b
 refine .neqF rfl rfl rfl hE (.nil (.condF rfl (.skip (.seq (.region (.ldA ty_N rfl rfl (k2.ext (e2.trans x24)) rfl (.mv rfl rfl ?_)))))))
 have hl4 := ER.ext eI hl x24
 refine .call _ rfl E_island_Refs rfl (island_Refs_c (up.ext x4.size) (hn.ext x4) (ho.ext x4)) fun v5 w5 e5 h5 => ?_
 obtain ⟨vr, ve, rfl, hr, he⟩ := h5
 replace he : ve = .int .i64 (outE n o) := he
 subst he
 rw [if_pos hE] at hr
 have x5 := x4.trans e5
 refine .mv rfl rfl (.ext rfl rfl rfl (.ext rfl rfl rfl (.asg rfl rfl (.asg rfl rfl (.nil (.seq (.seq (.region (.mv rfl rfl (.neqF rfl rfl rfl hE (.nil (.condF rfl (.skip (.seq (.region (.ldA ty_N rfl rfl ((k2.ext (e2.trans x24)).ext e5) rfl (.ld ty_I rfl rfl (k6.ext e5) rfl (.mv rfl rfl ?_))))))))))))))))))
 have hl5 := ER.ext eI hl4 e5
 refine .call _ rfl E_shift_equations rfl (shift_equations_c (up.ext x5.size) (hn.ext x5) hl5 hr ok) fun vA w6 e6 hA => ?_
 have x6 := x5.trans e6
 have hcA : colsOf (nwOf n o).gA = (nwOf n o).gA.length := by rw [gA_cols hB1, gA_len]
 refine .call _ rfl E_solve_Inverse rfl (solve_Inverse_c (L := 21) (n := 6) (m := (nwOf n o).gA) (up.ext x6.size) hA (gA_mk ok) (by decide) (by rw [gA_len]; exact hB6) (by rw [hcA, gA_len]; omega) (by decide) (by decide)) fun v7 w7 e7 h7 => ?_
 obtain ⟨vi, ve, rfl, hi, he⟩ := h7
 replace he : ve = .int .i64 (if colsOf (nwOf n o).gA = (nwOf n o).gA.length then (if invertible (nwOf n o).gA then 0 else 8) else 13) := he
 have hinv := gA_inv ok.ok hB1
 rw [if_pos hcA, if_pos hinv] at he
 subst he
 replace hi : eM.R S w7 vi (invM (nwOf n o).gA) := by rw [if_pos ⟨hcA, hinv⟩] at hi; exact hi
 obtain ⟨ai, ci, hvi, _⟩ := RL.len hi
 have x7 := x6.trans e7
 refine .mv rfl rfl (.ext rfl rfl rfl (.ext rfl rfl rfl (.alloc rfl zero_M fun w8 b9 n8 => ?_)))
 obtain ⟨e8, k9, hb9, hs8⟩ := n8
 refine .store ty_M rfl rfl k9 (by rw [hvi]; rfl) (by simp [Value.cells]) (by rw [hvi]; simp [one1, Value.cells]) fun w9 k9 u9 => .asg rfl rfl (.nil (.seq (.seq (.region (.mv rfl rfl (.neqF rfl rfl rfl rfl (.nil (.condF rfl (.skip (.seq (.region (.mkf [] [_, _, _] rfl rfl rfl rfl (.asg rfl rfl (.nil (.seq (.region (.asg rfl rfl (.nil ?_))))))))))))))))))
 replace k9 : Blk w9 b9 22 #[vi] := by rw [hvi] at k9 ⊢; exact k9
 have x79 : Ext w7 w9 := u9.below e8 (by omega)
 have x9 := x7.trans x79
 have x49 : Ext w4 w9 := ((e5.trans e6).trans e7).trans x79
 have k2 := (k2.ext (e2.trans x24)).ext x49
 have k6 := k6.ext x49
 have hs9 := x9.size
 have hsW : ∀ {W : World}, Ext w9 W → eLs.R (fun k => S k ∧ k < w9.heap.size) W s n.ls := fun e => ER.ext eLs (ER.lt eLs (hs.ext x9)) e
 have hlW : ∀ {W : World}, Ext w9 W → eI.R (fun k => S k ∧ k < w9.heap.size) W vl (pInts (inL n o)) := fun e => ER.ext eI (ER.lt eI (ER.ext eI hl4 x49)) e
 have hiW : ∀ {W : World}, Ext w9 W → eM.R (fun k => S k ∧ k < w9.heap.size) W vi (invM (nwOf n o).gA) := fun e => ER.ext eM (ER.lt eM (ER.ext eM hi x79)) e
 have hik : mk_ 87381 (invM (nwOf n o).gA) := by
  have := inv_rsz (n := 6) (gA_mk ok) (by decide) (by rw [gA_len]; exact hB6)
  rwa [bd216] at this
 rw [hnb] at k2
 generalize hG : (fun b => tab n.ls.length ((nwOf n o).fl ((nwOf n o).th b))) = G
 have hGl : ∀ b, (G b).length = n.ls.length := fun b => by rw [← hG]; exact tab_length ..
 refine .mid (α := Value) (fun v => [(2, .pointer (some ⟨b2, 0, none⟩)), (11, v)]) (fun v W => Ext w9 W ∧ OwnL eV 46 w9.heap.size S W v ((List.range (nwOf n o).B).map G)) ?_ ?_
 ·refine .seq (.region (.fa fld_N0 rfl rfl (.ld ty_int rfl rfl k2 rfl (.mv rfl rfl (.nil ?_)))))
  refine .block (.loop (α := Nat × Value) (fun y => [(2, .pointer (some ⟨b2, 0, none⟩)), (10, .func (.func 99) #[] #[.pointer (some ⟨b2, 0, none⟩), .pointer (some ⟨b6, 0, none⟩), .pointer (some ⟨b9, 0, none⟩)]), (11, y.2), (44, .int .i64 ((nwOf n o).B : Nat)), (45, .int .i64 (y.1 : Nat))]) (fun y W => Ext w9 W ∧ y.1 ≤ (nwOf n o).B ∧ OwnL eV 46 w9.heap.size S W y.2 ((List.range y.1).map G)) (fun y => (nwOf n o).B - y.1) (0, .slice none 0 0) ?_ ?_ ?_)
  ·exact look_cons rfl (look_cons rfl (look_cons rfl (look_cons rfl (look_cons rfl look_nil))))
  ·exact ⟨Ext.refl _, Nat.zero_le _, OwnL.nil⟩
  rintro ⟨b, v⟩ W ⟨hW, hbB, hown⟩
  replace hW : Ext w9 W := hW
  replace hbB : b ≤ (nwOf n o).B := hbB
  replace hown : OwnL eV 46 w9.heap.size S W v ((List.range b).map G) := hown
  have hWs := hW.size
  refine .seq (.region ?_)
  rcases Nat.lt_or_ge b (nwOf n o).B with hlt | hge
  rotate_left
  ·refine .lssF rfl rfl rfl (by omega) (.nil (.seq (.condF rfl (.exit ?_))))
   have : b = (nwOf n o).B := by omega
   subst this
   exact ⟨rfl, v, look_cons rfl (look_cons rfl look_nil), hW, hown⟩
  obtain ⟨es, ho1, _⟩ := id hown
  have hT : ∀ k, S k ∧ k < w9.heap.size → S k ∧ v.ownBlock ≠ some k := fun k h => ⟨h.1, fun e => by have := (ho1.lt k e).1; have := h.2; omega⟩
  have upT : Up (fun k => S k ∧ v.ownBlock ≠ some k) W := fun k hk => ⟨up k (by omega), fun e => by have := (ho1.lt k e).2; omega⟩
  refine .lssT rfl rfl rfl (by omega) (.nil (.seq (.condT rfl (.skip (.seq (.block (.seq (.region (.mv rfl rfl (.asg rfl rfl (.nil (.region (.mv rfl rfl (.mv rfl rfl (.mv rfl rfl ?_)))))))))))))))
  refine .callv [.int .i64 (b : Nat)] rfl rfl E_col rfl (col_c (S := fun k => S k ∧ v.ownBlock ≠ some k) (b := b) upT ok (k2.ext hW) (eLs.mono (fun k _ h => hT k h) (hsW hW)) (k6.ext hW) (eI.mono (fun k _ h => hT k h) (hlW hW)) (k9.ext hW) (eM.mono (fun k _ h => hT k h) (hiW hW)) hik (by decide) (by decide)) fun vc W1 f1 hc => ?_
  have hc : eV.R (fun k => S k ∧ v.ownBlock ≠ some k) W1 vc (G b) := by rw [← hG]; exact hc
  obtain ⟨ac, cc, hvc, _⟩ := RL.len hc
  rw [hGl] at hvc
  subst hvc
  refine .bsl _ rfl rfl bsl_M1 fun W2 by_ ny => ?_
  obtain ⟨ey, ky, hby, hsy⟩ := ny
  have f2 := f1.trans ey
  have hW2 := hW.trans f2
  refine .gv rfl rfl (g_appL (E := eV) (base := w9.heap.size) (n := G b) (e := .slice ac n.ls.length cc) (by decide) un_M info_V rfl rfl rfl (hown.ext f2) ky (ER.ext eV hc ey) (by simp; omega) (by decide) hW2.size) ?_
  rintro v8 W8 ⟨ho8, hg8⟩
  refine .asg rfl rfl (.nil (.region (.add rfl rfl rfl (.mv rfl rfl (.nil ?_)))))
  rw [wI (by omega)]
  refine ⟨rfl, (b + 1, v8), look_cons rfl (look_cons rfl (look_cons rfl (look_cons rfl (look_cons rfl look_nil)))), ⟨(hown.ext f2).below hg8 hW2 hW2.size, hlt, ?_⟩, by show (nwOf n o).B - (b + 1) < (nwOf n o).B - b; omega⟩
  show OwnL eV 46 w9.heap.size S W8 v8 ((List.range (b + 1)).map G)
  rw [List.range_succ, List.map_append]
  exact ho8
 rintro v W ⟨hW, hown⟩
 have hcol : eM.R S W v (tabM (nwOf n o).B n.ls.length fun b k => (nwOf n o).hf k b) := by
  have := hown.toR (S := S) (hsz := by decide) (fun k hk => up k (by omega)) (fun _ h => h)
  rw [← hG] at this
  exact this
 have hWs := hW.size
 refine .seq (.region (.mv rfl rfl (.fa fld_N1 rfl rfl (.ld ty_Ls rfl rfl (k2.ext hW) rfl (.lenR un_Ls rfl rfl (hsW hW) ?_)))))
 refine .call _ rfl E_transpose rfl (transpose_c (up.ext (x9.trans hW).size) hcol (by omega) (by omega)) fun vt W1 f1 ht => .asg rfl rfl (.asg rfl rfl (.nil (.ret ?_)))
 exact .plain [_, _] Tryz.results34 ⟨rfl, rfl, trivial⟩ ⟨(x9.trans hW).trans f1, _, _, rfl, ht, by rw [hE]⟩
open Classical in
noncomputable def btE (n : NtV) (o : List Int) (a b : Int) : Int := if conE n o a b ≠ 0 then conE n o a b else if conB n o a b = true then 0 else 8
def btV (n : NtV) (o : List Int) (a b : Nat) : List QV := tab n.ls.length fun k => (nwOf n o).hf k a - (nwOf n o).hf k b
theorem E_shift_Between : Ent Tryz.prog 35 := ent_of Tryz.func35 (by kernel_rfl) rfl
theorem shift_Between_c {S : Nat → Prop} {w : World} {vn vo : Value} {n : NtV} {o : List Int} {a b : Int} (up : Up S w) (hn : eN.R S w vn n) (ho : eI.R S w vo o) :
  CR Tryz.prog 35 #[vn, vo, .int .i64 a, .int .i64 b] w (Two (eV.at S (if btE n o a b = 0 then btV n o a.toNat b.toNat else [])) (Is (.int .i64 (btE n o a b)))) := by
 have hvn := shpA (E := eN) rfl hn
 refine enter Tryz.func35 rfl Tryz.ntmps35 rfl ?_
 refine .seq (.region (.box rfl rfl fun w1 b4 n1 => .asg rfl rfl (.asg rfl rfl (.nil ?_))))
 obtain ⟨e1, k4, hb4, hs1⟩ := n1
 refine .seq (.region (.ldA ty_N rfl rfl k4 (eN.csz hn) (.mv rfl rfl (.mv rfl rfl (.mv rfl rfl ?_)))))
 rw [← hvn]
 refine .call _ rfl E_island_Connected rfl (island_Connected_c (up.ext e1.size) (hn.ext e1) (ho.ext e1)) fun v2 w2 e2 h2 => ?_
 obtain ⟨vb, ve, rfl, hb, he⟩ := h2
 replace hb : vb = .bool (conB n o a b) := hb
 replace he : ve = .int .i64 (conE n o a b) := he
 subst hb; subst he
 have x2 := e1.trans e2
 refine .mv rfl rfl (.ext rfl rfl rfl (.ext rfl rfl rfl (.asg rfl rfl (.asg rfl rfl (.nil (.seq (.seq (.region (.mv rfl rfl ?_)))))))))
 by_cases hE : conE n o a b = 0
 rotate_left
 ·have hb : btE n o a b = conE n o a b := by unfold btE; rw [if_pos hE]
  refine .neqT rfl rfl rfl hE (.nil (.condT rfl (.seq (.region (.mv rfl rfl (.asg rfl rfl (.asg rfl rfl (.nil (.ret ?_)))))))))
  refine .plain [_, _] Tryz.results35 ⟨rfl, rfl, trivial⟩ ⟨x2, _, _, rfl, ?_, by rw [hb]; rfl⟩
  rw [if_neg (by rw [hb]; exact hE)]; exact RL.nil
 refine .neqF rfl rfl rfl hE (.nil (.condF rfl (.skip (.seq (.seq (.region (.mv rfl rfl (.not_ rfl rfl (.nil ?_)))))))))
 by_cases hC : conB n o a b = true
 rotate_left
 ·have hb : btE n o a b = 8 := by unfold btE; rw [if_neg (by simpa using hE), if_neg hC]
  rw [Bool.not_eq_true] at hC
  rw [hC]
  refine .condT rfl (.seq (.region (.asg rfl rfl (.asg rfl rfl (.nil (.ret ?_))))))
  refine .plain [_, _] Tryz.results35 ⟨rfl, rfl, trivial⟩ ⟨x2, _, _, rfl, ?_, by rw [hb]⟩
  rw [if_neg (by rw [hb]; decide)]; exact RL.nil
 have hb : btE n o a b = 0 := by unfold btE; rw [if_neg (by simpa using hE), if_pos hC]
 rw [hC, if_pos hb]
 obtain ⟨hO, hA, hBb⟩ := conE_ok hE
 have ok := nw_ok hO
 have hB6 := ok.b6
 have hM10 : n.ls.length ≤ 10 := ok.m
 have hnb := ok.b
 obtain ⟨a', rfl⟩ : ∃ a' : Nat, a = a' := ⟨a.toNat, by have := hA.1; omega⟩
 obtain ⟨b', rfl⟩ : ∃ b' : Nat, b = b' := ⟨b.toNat, by have := hBb.1; omega⟩
 have haB : a' < (nwOf n o).B := by have := hA.2; omega
 have hbB : b' < (nwOf n o).B := by have := hBb.2; omega
 refine .condF rfl (.skip (.seq (.region (.ldA ty_N rfl rfl (k4.ext e2) (eN.csz hn) (.mv rfl rfl ?_)))))
 rw [← hvn]
 refine .call _ rfl E_shift_Factors rfl (shift_Factors_c (up.ext x2.size) (hn.ext x2) (ho.ext x2)) fun v3 w3 e3 h3 => ?_
 obtain ⟨vm, ve, rfl, hm, he⟩ := h3
 replace he : ve = .int .i64 (outE n o) := he
 subst he
 rw [if_pos hO] at hm
 have x3 := x2.trans e3
 refine .mv rfl rfl (.ext rfl rfl rfl (.ext rfl rfl rfl (.asg rfl rfl (.asg rfl rfl (.nil (.seq (.seq (.region (.mv rfl rfl (.neqF rfl rfl rfl hO (.nil (.condF rfl (.skip (.seq (.region (.mv rfl rfl (.lenR un_M rfl rfl hm ?_)))))))))))))))))
 rw [tabM_length]
 refine .make_ _ _ un_V info_Q rfl (by decide) rfl rfl rfl (Nat.le_refl _) (by omega) (by omega) fun w4 h n4 => .asg rfl rfl (.nil ?_)
 have f4 : FB eQ 32 S w4 h (List.replicate n.ls.length q0) := FB.made n4 zq_R
 obtain ⟨e4, _, hh, hs4⟩ := n4
 have hmW : ∀ {W : World}, Below w3.heap.size w3 W → eM.R (fun k => S k ∧ k < w3.heap.size) W vm (tabM n.ls.length (nwOf n o).B (nwOf n o).hf) := fun hB => eM.keep (fun k c t f hk hh => (hB.block k hk.2).trans hh) (ER.lt eM hm)
 refine .seq (.seq (.region (.mv rfl rfl (.lenR un_M rfl rfl (hmW e4) (.mv rfl rfl (.nil ?_))))))
 rw [tabM_length]
 generalize hG : (fun k => qc ((nwOf n o).hf k a' - (nwOf n o).hf k b')) = G
 refine .block (.loop (α := Nat) (fun i => [(2, .int .i64 (a' : Nat)), (3, .int .i64 (b' : Nat)), (13, slB n.ls.length h), (41, vm), (42, .int .i64 (n.ls.length : Nat)), (43, .int .i64 (i : Nat))]) (fun i W => Below w3.heap.size w3 W ∧ i ≤ n.ls.length ∧ FB eQ 32 S W h (fil n.ls.length i G q0)) (fun i => n.ls.length - i) 0 ?_ ?_ ?_)
 ·exact look_cons rfl (look_cons rfl (look_cons rfl (look_cons rfl (look_cons rfl (look_cons rfl look_nil)))))
 ·exact ⟨e4, Nat.zero_le _, by rw [fil_zero]; exact f4⟩
 rintro i W ⟨hW, hi, fb⟩
 have hWs := hW.size
 have hhl := fb.lt
 refine .seq (.region ?_)
 rcases Nat.lt_or_ge i n.ls.length with hlt | hge
 rotate_left
 ·refine .lssF rfl rfl rfl (by omega) (.nil (.seq (.condF rfl (.exit (.seq (.region (.mv rfl rfl (.asg rfl rfl (.asg rfl rfl (.nil (.ret ?_)))))))))))
  have : i = n.ls.length := by omega
  subst this
  rw [fil_all] at fb
  refine .plain [_, _] Tryz.results35 ⟨rfl, rfl, trivial⟩ ⟨x3.trans hW, _, _, rfl, ?_, by rw [hb]⟩
  have := fb.toR (hsz := by decide) (c := n.ls.length) (up h (by have := x3.size; omega)) (by simp) (by simp; omega)
  rw [List.length_map, List.length_range, ← hG] at this
  exact this
 refine .lssT rfl rfl rfl (by omega) (.nil (.seq (.condT rfl (.skip (.seq (.block (.seq (.region (.mv rfl rfl (.ixN (i := i) un_M ty_V rfl rfl (hmW hW) rfl (tabM_get hlt) fun q hq => .ldE (E := eV) ty_V rfl rfl hq fun vr hr => .asg rfl rfl (.asg rfl rfl (.nil ?_))))))))))))
 have upT : ∀ {W' : World}, Ext W W' → Up (fun k => S k ∧ k ≠ h) W' := fun e k hk => ⟨up k (by have := e.size; have := x3.size; omega), by have := e.size; omega⟩
 have hT : ∀ k, S k ∧ k < w3.heap.size → S k ∧ k ≠ h := fun k hk => ⟨hk.1, by have := hk.2; omega⟩
 refine .par follows 11 [.inl (slB n.ls.length h), .inl (.int .i64 (i : Nat)), .inl vr, .inl (.int .i64 (a' : Nat)), .inr (Ptr eQ (fun k => S k ∧ k < w3.heap.size) (qc ((nwOf n o).hf i a'))), .inr (eQ.at (fun k => S k ∧ k < w3.heap.size) (qc ((nwOf n o).hf i a'))), .inl vr, .inl (.int .i64 (b' : Nat)), .inr (Ptr eQ (fun k => S k ∧ k < w3.heap.size) (qc ((nwOf n o).hf i b'))), .inr (eQ.at (fun k => S k ∧ k < w3.heap.size) (qc ((nwOf n o).hf i b'))), .inr (eQ.at (fun k => S k ∧ k ≠ h) (G i))]
  [[], [], [], [], [(50, 2), (51, 3)], [(52, 4)], [], [], [(54, 6), (55, 7)], [(56, 8)], [(53, 5), (57, 9)]] (by kernel_rfl) ⟨
  fun w e => (v_mv rfl).ob, fun w e => (v_mv rfl).ob, fun w e => (v_mv rfl).ob, fun w e => (v_mv rfl).ob,
  fun w e => ob_ixN (i := a') un_V ty_Q rfl (ER.ext eV hr e) rfl (tab_get haB), fun w e x hx => ob_ldE ty_Q rfl hx,
  fun w e => (v_mv rfl).ob, fun w e => (v_mv rfl).ob,
  fun w e => ob_ixN (i := b') un_V ty_Q rfl (ER.ext eV hr e) rfl (tab_get hbB), fun w e x hx => ob_ldE ty_Q rfl hx,
  fun w e x hx y hy => by
   have := frac_Sub_c (L := 174764) (upT e) (eQ.mono (fun k _ h => hT k h) hx) (eQ.mono (fun k _ h => hT k h) hy) (hf_rsz ok i a').toOk (hf_rsz ok i b').toOk (by decide) (by decide)
   rw [qval_qc, qval_qc] at this
   rw [← hG]
   exact (g_call _ E_frac_Sub rfl this).ob (st_at _ _ _), trivial⟩ ?_
 intro W1 f1 _ _ _ _ _ _ _ _ y hy
 refine .ixB (i := i) un_V ty_Q rfl rfl rfl hlt (.storeF (E := eQ) (i := i) (by decide) ty_Q rfl rfl (fb.ext f1) rfl (by rw [fil_length]; exact hlt) (Nat.zero_add _) hy fun W2 f2 u2 => .nil ?_)
 rw [fil_set] at f2
 refine .region (.add rfl rfl rfl (.mv rfl rfl (.nil ?_)))
 rw [wI (by omega)]
 exact ⟨rfl, i + 1, look_cons rfl (look_cons rfl (look_cons rfl (look_cons rfl (look_cons rfl (look_cons rfl look_nil))))), ⟨u2.below (hW.trans (f1.mono hWs)) (by omega), hlt, f2⟩, by show n.ls.length - (i + 1) < n.ls.length - i; omega⟩
end Go.Proofs.YthjnmfemndfijaaGreat

namespace Go.Proofs.YthjnmfemndfijaaGreat
open Go Go.Kx Go.RowKit
end Go.Proofs.YthjnmfemndfijaaGreat

namespace Go.Proofs.YthjnmfemndfijaaGreat
open Go Go.Kx Go.RowKit
theorem isM_t {w : World} {va vb : Value} {a b : List (List QV)} (ha : eM.R (fun _ => True) w va a) (hb : eM.R (fun _ => True) w vb b) (h : a = b) : CR Tryz.prog 23 #[va, vb] w (Is (.bool true)) := by
 have := ref04_Is_c ha hb
 rwa [same_true h] at this
theorem isV_t {w : World} {va vb : Value} {a b : List QV} (ha : eV.R (fun _ => True) w va a) (hb : eV.R (fun _ => True) w vb b) (h : a = b) : CR Tryz.prog 36 #[va, vb] w (Is (.bool true)) := by
 have := ref03_Is_c ha hb
 rwa [same_true h] at this
end Go.Proofs.YthjnmfemndfijaaGreat

namespace Go.Kx
open Go Go.RowKit
/-- angles are known by the equations -/
theorem Nw.th_cand {n : Nw} (ok : n.Ok) (hB : 1 ≤ n.B) (cand : Nat → Nat → Rat) (h : ∀ b, b < n.B → ∀ i, i < n.B → (if n.root i = i then cand b i else n.lap (cand b) i) = dl i b) {b c : Nat} (hb : b < n.B) (hc : c < n.B) : n.th b c = cand b c :=
 Nw.uniq ok (fun i hi => by
  have h1 := Go.Proofs.YthjnmfemndfijaaGreat.th_eq ok hB hb hi
  have h2 := h b hb i hi
  split
  ·rw [if_pos (by assumption)] at h1 h2; rw [h1, h2]
  ·rw [if_neg (by assumption)] at h1 h2; rw [h1, h2]) c hc
theorem Nw.hf_cand {n : Nw} (ok : n.Ok) (hB : 1 ≤ n.B) (cand : Nat → Nat → Rat) (h : ∀ b, b < n.B → ∀ i, i < n.B → (if n.root i = i then cand b i else n.lap (cand b) i) = dl i b) {k b : Nat} (hk : k < n.M) (hb : b < n.B) : n.hf k b = n.fl (cand b) k := by
 unfold Nw.hf Nw.fl
 rw [Nw.th_cand ok hB cand h hb (ok.f k hk), Nw.th_cand ok hB cand h hb (ok.t k hk)]
def net3 : NtV := ⟨3, [⟨0, 1, 10, 100⟩, ⟨1, 2, 5, 50⟩, ⟨0, 2, 10, 70⟩]⟩
def cand3 (b c : Nat) : Rat := if b = 0 then 1 else if c = 0 then 0 else if b = c then 6 else 4
def outsB (m : Nat) (o : List Int) : Bool := (List.range o.length).all fun i => decide (0 ≤ o.getD i 0) && decide (o.getD i 0 < m) && (decide (i = 0) || decide (o.getD (i - 1) 0 < o.getD i 0))
theorem outsB_ok {n : NtV} {o : List Int} (h : outsB n.ls.length o = true) : outsOk n o := by
 unfold outsB at h
 rw [List.all_eq_true] at h
 intro i hi
 have := h i (List.mem_range.2 hi)
 simp only [Bool.and_eq_true, Bool.or_eq_true, decide_eq_true_eq] at this
 exact ⟨this.1.1, this.1.2, fun h0 => by rcases this.2 with h | h; omega; exact h⟩
def chkB (n : NtV) : Bool := decide (1 ≤ n.b) && decide (n.b ≤ 6) && decide (n.ls.length ≤ 10) && n.ls.all fun l => (List.range 5).all fun i => ck i n.b l
theorem outE_of {n : NtV} {o : List Int} (h : chkB n = true) (ho : outsB n.ls.length o = true) : outE n o = 0 := by
 unfold chkB at h
 simp only [Bool.and_eq_true, decide_eq_true_eq, List.all_eq_true] at h
 obtain ⟨⟨⟨h1, h2⟩, h3⟩, h4⟩ := h
 have hc : chkE n = 0 := by
  unfold chkE
  rw [if_neg (by omega), if_neg (by omega), if_pos]
  exact fun i _ l hl j hj => h4 l (List.mem_iff_getElem?.2 ⟨i, hl⟩) j (List.mem_range.2 hj)
 unfold outE
 rw [if_neg (by simpa using hc), if_pos (outsB_ok ho)]
end Go.Kx
namespace Go.Proofs.YthjnmfemndfijaaGreat
open Go Go.Kx Go.RowKit
theorem un_II : Tryz.prog.underlying 103 = some (.slice 41) := by kernel_rfl
theorem E_law14_Long : Ent Tryz.prog 30 := ent_of Tryz.func30 (by kernel_rfl) rfl
theorem law14_Long_c {S : Nat → Prop} {w : World} {vn vl : Value} {n : NtV} {l : List (List Int)} (hn : eN.R S w vn n) (hl : eII.R S w vl l) : CR Tryz.prog 30 #[vn, vl] w (fun v _ => ∃ b, v = .bool b) := by
 obtain ⟨s, rfl, hs, _⟩ := hn
 obtain ⟨_, _, _, _, hll⟩ := RL.len hl
 refine enter Tryz.func30 rfl Tryz.ntmps30 rfl ?_
 refine .seq (.region (.box rfl rfl fun w1 b2 n1 => .asg rfl rfl (.nil (.seq (.seq (.region (.asg rfl rfl (.nil ?_))))))))
 obtain ⟨e1, k2, _, _⟩ := n1
 have hl := hl.ext e1
 refine .block (.loop (α := Nat) (fun i => [(1, vl), (2, .pointer (some ⟨b2, 0, none⟩)), (5, .int .i64 (i : Nat))]) (fun i W => W = w1 ∧ i ≤ l.length) (fun i => l.length - i) 0 ?_ ?_ ?_)
 ·exact look_cons rfl (look_cons rfl (look_cons rfl look_nil))
 ·exact ⟨rfl, Nat.zero_le _⟩
 rintro i W ⟨rfl, hi⟩
 refine .seq (.seq (.region (.mv rfl rfl (.mv rfl rfl (.lenR un_II rfl rfl hl ?_)))))
 rcases Nat.lt_or_ge i l.length with hlt | hge
 rotate_left
 ·refine .lssF rfl rfl rfl (by omega) (.nil (.condF rfl (.exit (.seq (.region (.fa fld_N1 rfl rfl (.ld ty_Ls rfl rfl k2 rfl (.lenR un_Ls rfl rfl (hs.ext e1) (.gtr rfl rfl rfl (.asg rfl rfl (.nil (.ret ?_))))))))))))
  exact .plain [_] Tryz.results30 ⟨rfl, trivial⟩ ⟨e1, _, rfl⟩
 refine .lssT rfl rfl rfl (by omega) (.nil (.condT rfl (.skip (.seq (.block (.seq (.region (.mv rfl rfl (.mv rfl rfl (.ixN (i := i) un_II ty_I rfl rfl hl rfl (List.getElem?_eq_getElem hlt) fun q hq => .ldE (E := eI) ty_I rfl rfl hq fun v hv => .lenR un_I rfl rfl hv ?_))))))))))
 by_cases h : 100 < l[i].length
 ·refine .gtrT rfl rfl rfl (by omega) (.nil (.condT rfl (.seq (.region (.asg rfl rfl (.nil (.ret ?_)))))))
  exact .plain [_] Tryz.results30 ⟨rfl, trivial⟩ ⟨e1, _, rfl⟩
 ·refine .gtrF rfl rfl rfl (by omega) (.nil (.condF rfl (.skip (.region (.mv rfl rfl (.add rfl rfl rfl (.asg rfl rfl (.nil ?_))))))))
  rw [wI (by omega)]
  exact ⟨rfl, i + 1, look_cons rfl (look_cons rfl (look_cons rfl look_nil)), ⟨rfl, hlt⟩, by show l.length - (i + 1) < l.length - i; omega⟩
theorem zero_N : zeroOf Tryz.prog 40 = some (.agg #[.int .i64 0, .slice none 0 0]) := by kernel_rfl
theorem bld_Ln4 {a b c d : Int} : bldOf Tryz.prog 58 [(0, .int .i64 a), (1, .int .i64 b), (2, .int .i64 c), (3, .int .i64 d)] = some #[.int .i64 a, .int .i64 b, .int .i64 c, .int .i64 d] := by kernel_rfl
theorem bsl_Ls3 {a b c d a' b' c' d' a2 b2 c2 d2 : Value} : bslOf Tryz.prog 38 3 [(0, .agg #[a, b, c, d]), (1, .agg #[a', b', c', d']), (2, .agg #[a2, b2, c2, d2])] = some (58, #[a, b, c, d, a', b', c', d', a2, b2, c2, d2]) := by kernel_rfl
theorem bld_N2 {b : Int} {a : Option Addr} {n c : Nat} : bldOf Tryz.prog 40 [(0, .int .i64 b), (1, .slice a n c)] = some #[.int .i64 b, .slice a n c] := by kernel_rfl
theorem ln_R {S : Nat → Prop} {w : World} {a b c d : Int} (h : ∀ x ∈ [a, b, c, d], -9223372036854775808 ≤ x ∧ x ≤ 9223372036854775807) : eL.R S w (.agg #[.int .i64 a, .int .i64 b, .int .i64 c, .int .i64 d]) ⟨a, b, c, d⟩ := ⟨rfl, inI_iff.2 (h a (by simp)), inI_iff.2 (h b (by simp)), inI_iff.2 (h c (by simp)), inI_iff.2 (h d (by simp))⟩
theorem E_law18_three : Ent Tryz.prog 48 := ent_of Tryz.func48 (by kernel_rfl) rfl
theorem law18_three_c {w : World} : CR Tryz.prog 48 #[] w (eN.at (fun _ => True) net3) := by
 refine enter Tryz.func48 rfl Tryz.ntmps48 rfl ?_
 refine .seq (.region (.alloc rfl zero_N fun w1 b0 n1 => .nil (.seq (.region (.bld _ rfl rfl bld_Ln4 (.bld _ rfl rfl bld_Ln4 (.bld _ rfl rfl bld_Ln4 (.bsl _ rfl rfl bsl_Ls3 fun w2 b4 n2 => .bld _ rfl rfl bld_N2 ?_))))))))
 obtain ⟨e1, k0, hb0, hs1⟩ := n1
 have hl : eLs.R (fun k => k ≠ b0) w2 (.slice (some ⟨b4, 0, none⟩) 3 3) net3.ls := eA_new (E := eL) [_, _, _] net3.ls n2 (fun k hk => by omega) rfl rfl (by decide) (Els.snoc (Els.snoc (Els.snoc Els.nil (ln_R (by decide))) (ln_R (by decide))) (ln_R (by decide)))
 have hn : eN.R (fun k => k ≠ b0) w2 (.agg #[.int .i64 3, .slice (some ⟨b4, 0, none⟩) 3 3]) net3 := ⟨_, rfl, hl, inI_iff.2 (by decide)⟩
 refine .storeA (E := eN) ty_N rfl rfl (k0.ext n2.1) rfl rfl hn (fun h => h rfl) fun w3 k3 u3 h3 => .nil (.ret ?_)
 exact .cell (E := eN) Tryz.results48 rfl ty_N rfl rfl k3 h3 ⟨u3.below (e1.trans n2.1) (by omega), eN.mono (fun _ _ _ => trivial) h3⟩
theorem E_law18_fifths : Ent Tryz.prog 49 := ent_of Tryz.func49 (by kernel_rfl) rfl
theorem law18_fifths_c {w : World} {vl : Value} {l : List Int} (hl : eI.R (fun _ => True) w vl l) (hn : l.length ≤ 1000) (hr : ∀ x ∈ l, -9223372036854775808 ≤ x ∧ x ≤ 9223372036854775807) : CR Tryz.prog 49 #[vl] w (eV.at (fun _ => True) (tab l.length fun k => Rat.divInt (l.getD k 0) 5)) := by
 have hlW : ∀ {W : World}, Below w.heap.size w W → eI.R (fun k => k < w.heap.size) W vl l := fun h => eI.keep (fun k c t f hk hh => (h.block k hk).trans hh) (eI.mono (fun k _ h => h.2) (ER.lt eI hl))
 refine enter Tryz.func49 rfl Tryz.ntmps49 rfl ?_
 refine .seq (.region (.asg rfl rfl (.nil (.seq (.region (.asg rfl rfl (.nil (.seq (.seq (.region (.asg rfl rfl (.nil ?_))))))))))))
 generalize hG : (fun k => qc (Rat.divInt (l.getD k 0) 5)) = G
 refine .block (.loop (α := Nat × Value) (fun y => [(0, vl), (3, y.2), (4, .int .i64 (y.1 : Nat))]) (fun y W => Ext w W ∧ y.1 ≤ l.length ∧ OwnL eQ 32 w.heap.size (fun _ => True) W y.2 ((List.range y.1).map G)) (fun y => l.length - y.1) (0, .slice none 0 0) ?_ ?_ ?_)
 ·exact look_cons rfl (look_cons rfl (look_cons rfl look_nil))
 ·exact ⟨Ext.refl _, Nat.zero_le _, OwnL.nil⟩
 rintro ⟨i, v⟩ W ⟨hW, hi, hown⟩
 replace hW : Ext w W := hW
 replace hi : i ≤ l.length := hi
 replace hown : OwnL eQ 32 w.heap.size (fun _ => True) W v ((List.range i).map G) := hown
 refine .seq (.seq (.region (.mv rfl rfl (.mv rfl rfl (.lenR un_L rfl rfl (hlW hW) ?_)))))
 rcases Nat.lt_or_ge i l.length with hlt | hge
 rotate_left
 ·refine .lssF rfl rfl rfl (by omega) (.nil (.condF rfl (.exit (.seq (.region (.mv rfl rfl (.asg rfl rfl (.nil (.ret ?_)))))))))
  have : i = l.length := by omega
  subst this
  refine .plain [_] Tryz.results49 ⟨rfl, trivial⟩ ⟨hW, ?_⟩
  have := hown.toR (S := fun _ => True) (hsz := by decide) (fun _ _ => trivial) (fun _ h => h)
  rw [← hG] at this
  exact this
 have hg : l[i]? = some (l.getD i 0) := getD_get' hlt
 have hrx := hr _ (List.mem_iff_getElem?.2 ⟨i, hg⟩)
 obtain ⟨es, ho1, _⟩ := id hown
 have upT' : Up (fun k => True ∧ v.ownBlock ≠ some k) W := fun k hk => ⟨trivial, fun e => by have := (ho1.lt k e).2; omega⟩
 refine .lssT rfl rfl rfl (by omega) (.nil (.condT rfl (.skip (.seq (.block (.region (.mv rfl rfl (.mv rfl rfl (.mv rfl rfl (.ixN (i := i) un_L ty_i64 rfl rfl (hlW hW) rfl hg fun q hq => .ldE (E := eInt .i64) ty_i64 rfl rfl hq fun e he => ?_))))))))))
 obtain ⟨rfl, _⟩ := he
 refine .call _ rfl E_ref02_Of rfl (ref02_Of_c upT' hrx (by decide)) fun v2 W2 e2 h2 => ?_
 have h2' := h2
 obtain ⟨s2, t2, rfl, _, _⟩ := h2'
 refine .bsl _ rfl rfl bsl_V1 fun W4 b4 n4 => ?_
 obtain ⟨e4, k4, hb4, hs4⟩ := n4
 have e24 := e2.trans e4
 have hW4 := hW.trans e24
 refine .gv rfl rfl (g_appL (E := eQ) (base := w.heap.size) (n := G i) (by decide) un_V info_Q rfl rfl rfl (hown.ext e24) k4 (by rw [← hG]; exact h2.ext e4) (by simp; omega) (by decide) hW4.size) ?_
 rintro v5 W5 ⟨ho5, hg5⟩
 refine .asg rfl rfl (.nil (.region (.mv rfl rfl (.add rfl rfl rfl (.asg rfl rfl (.nil ?_))))))
 rw [wI (by omega)]
 refine ⟨rfl, (i + 1, v5), look_cons rfl (look_cons rfl (look_cons rfl look_nil)), ⟨(hown.ext e24).below hg5 hW4 hW4.size, hlt, ?_⟩, by show l.length - (i + 1) < l.length - i; omega⟩
 show OwnL eQ 32 w.heap.size (fun _ => True) W5 v5 ((List.range (i + 1)).map G)
 rw [List.range_succ, List.map_append]
 exact ho5
theorem E_law18_told : Ent Tryz.prog 39 := ent_of Tryz.func39 (by kernel_rfl) rfl
theorem law18_told_c {S : Nat → Prop} {w : World} {vn vo : Value} {n : NtV} {o : List Int} (up : Up S w) (hn : eN.R S w vn n) (ho : eI.R S w vo o) (hE : outE n o = 0) :
  CR Tryz.prog 39 #[vn, vo] w (Two (eM.at S (tabM n.ls.length (nwOf n o).B (nwOf n o).hf)) (Is (.bool true))) := by
 obtain ⟨s, rfl, hs, hb⟩ := hn
 have hn : eN.R S w (.agg #[.int .i64 n.b, s]) n := ⟨s, rfl, hs, hb⟩
 have ok := nw_ok hE
 have hM10 : n.ls.length ≤ 10 := ok.m
 have hnb := ok.b
 refine enter Tryz.func39 rfl Tryz.ntmps39 rfl ?_
 refine .seq (.region (.box rfl rfl fun w1 b2 n1 => .asg rfl rfl (.asg rfl rfl (.nil ?_))))
 obtain ⟨e1, k2, hb2, hs1⟩ := n1
 refine .seq (.region (.ldA ty_N rfl rfl k2 rfl (.mv rfl rfl ?_)))
 refine .call _ rfl E_shift_Factors rfl (shift_Factors_c (up.ext e1.size) (hn.ext e1) (ho.ext e1)) fun v2 w2 e2 h2 => ?_
 obtain ⟨vm, ve, rfl, hm, he⟩ := h2
 replace he : ve = .int .i64 (outE n o) := he
 subst he
 rw [if_pos hE] at hm
 have x2 := e1.trans e2
 have k2 := k2.ext e2
 refine .mv rfl rfl (.ext rfl rfl rfl (.ext rfl rfl rfl (.asg rfl rfl (.asg rfl rfl (.nil (.seq (.seq (.region (.mv rfl rfl (.neqF rfl rfl rfl hE (.mv rfl rfl (.gr rfl rfl rfl rfl (.mv rfl rfl (.gr rfl rfl rfl rfl (.lenR un_M rfl rfl hm (.gr rfl rfl rfl rfl (.fa fld_N1 rfl rfl (.gr rfl rfl rfl rfl (.ld ty_Ls rfl rfl k2 rfl (.gr rfl rfl rfl rfl (.lenR un_Ls rfl rfl (hs.ext x2) (.gr rfl rfl rfl rfl ?_))))))))))))))))))))))
 rw [tabM_length]
 refine .neqF rfl rfl rfl rfl (.pick rfl rfl rfl (.nil (.condF rfl (.skip (.seq (.seq (.region (.asg rfl rfl (.nil ?_)))))))))
 refine .block (.loop (α := Nat) (fun i => [(2, .pointer (some ⟨b2, 0, none⟩)), (6, vm), (8, .int .i64 (i : Nat))]) (fun i W => Ext w2 W ∧ i ≤ n.ls.length) (fun i => n.ls.length - i) 0 ?_ ?_ ?_)
 ·exact look_cons rfl (look_cons rfl (look_cons rfl look_nil))
 ·exact ⟨Ext.refl _, Nat.zero_le _⟩
 rintro i W ⟨hW, hi⟩
 refine .seq (.seq (.region (.mv rfl rfl (.mv rfl rfl (.lenR un_M rfl rfl (ER.ext eM hm hW) ?_)))))
 rw [tabM_length]
 rcases Nat.lt_or_ge i n.ls.length with hlt | hge
 rotate_left
 ·refine .lssF rfl rfl rfl (by omega) (.nil (.condF rfl (.exit (.seq (.region (.mv rfl rfl (.asg rfl rfl (.asg rfl rfl (.nil (.ret ?_))))))))))
  exact .plain [_, _] Tryz.results39 ⟨rfl, rfl, trivial⟩ ⟨x2.trans hW, _, _, rfl, ER.ext eM hm hW, rfl⟩
 refine .lssT rfl rfl rfl (by omega) (.nil (.condT rfl (.skip (.seq (.block (.seq ?_))))))
 refine .par follows 7 [.inl _, .inl _, .inr (Ptr eV S (tab (nwOf n o).B ((nwOf n o).hf i))), .inr (eV.at S (tab (nwOf n o).B ((nwOf n o).hf i))), .inl (.int .i64 ((nwOf n o).B : Nat)), .inl _, .inl (.int .i64 ((nwOf n o).B : Nat))] [[], [], [(31, 0), (32, 1)], [(33, 2)], [(34, 3)], [], [(36, 5)]] (by kernel_rfl) ⟨
  fun w e => (v_mv rfl).ob,
  fun w e => (v_mv rfl).ob,
  fun w e => ob_ixN (i := i) un_M ty_V rfl (ER.ext eM hm (hW.trans e)) rfl (tabM_get hlt),
  fun w e x2 hx2 => ob_ldE ty_V rfl hx2,
  fun w e x3 hx3 => ((v_lenR un_V rfl hx3).eq (by rw [tab_length])).ob,
  fun w e => (v_fa fld_N0 rfl).ob,
  fun w e => by rw [← hnb]; exact (v_ld ty_int rfl ((k2.ext hW).ext e) rfl).ob, trivial⟩ ?_
 intro W1 f1 _ _ _ _
 refine .neqF rfl rfl rfl rfl (.nil (.condF rfl (.skip (.region (.mv rfl rfl (.add rfl rfl rfl (.asg rfl rfl (.nil ?_))))))))
 rw [wI (by omega)]
 exact ⟨rfl, i + 1, look_cons rfl (look_cons rfl (look_cons rfl look_nil)), ⟨hW.trans f1, hlt⟩, by show n.ls.length - (i + 1) < n.ls.length - i; omega⟩
theorem ok3 : outE net3 [] = 0 := outE_of (by decide) (by decide)
theorem cand3_ok : ∀ b, b < (nwOf net3 []).B → ∀ i, i < (nwOf net3 []).B → (if (nwOf net3 []).root i = i then cand3 b i else (nwOf net3 []).lap (cand3 b) i) = dl i b := by
 have : ∀ b, b < 3 → ∀ i, i < 3 → (if (nwOf net3 []).root i = i then cand3 b i else (nwOf net3 []).lap (cand3 b) i) = dl i b := by decide +kernel
 exact this
def want3 : List (List Int) := [[0, -3, -2], [0, 2, -2], [0, -2, -3]]
theorem hf3 : tabM 3 3 (nwOf net3 []).hf = want3.map fun l => tab l.length fun k => Rat.divInt (l.getD k 0) 5 := by
 have ok := nw_ok ok3
 have h1 : tabM 3 3 (nwOf net3 []).hf = tabM 3 3 fun k b => (nwOf net3 []).fl (cand3 b) k := tabM_congr' fun k b hk hb => Nw.hf_cand ok.ok ok.b1 cand3 cand3_ok hk hb
 have h2 : ∀ k, k < 3 → ∀ b, b < 3 → (nwOf net3 []).fl (cand3 b) k = Rat.divInt ((want3.getD k []).getD b 0) 5 := by decide +kernel
 rw [h1, show tabM 3 3 (fun k b => (nwOf net3 []).fl (cand3 b) k) = tabM 3 3 fun k b => Rat.divInt ((want3.getD k []).getD b 0) 5 from tabM_congr' fun k b hk hb => h2 k hk b hb]
 rfl
theorem bt3 : btE net3 [] 1 2 = 0 ∧ btV net3 [] 1 2 = tab 3 fun k => Rat.divInt (([-1, 4, 1] : List Int).getD k 0) 5 := by
 have ok := nw_ok ok3
 have hc : conE net3 [] 1 2 = 0 := by unfold conE; rw [if_neg (by simpa using ok3), if_pos ⟨⟨by decide, by decide⟩, by decide, by decide⟩]
 have hb : conB net3 [] 1 2 = true := by unfold conB; exact decide_eq_true ⟨hc, by decide +kernel⟩
 refine ⟨by unfold btE; rw [if_neg (by simpa using hc), if_pos hb], ?_⟩
 have h2 : ∀ k, k < 3 → (nwOf net3 []).fl (cand3 1) k - (nwOf net3 []).fl (cand3 2) k = Rat.divInt (([-1, 4, 1] : List Int).getD k 0) 5 := by decide +kernel
 unfold btV
 exact tab_congr fun k hk => by
  rw [Nw.hf_cand ok.ok ok.b1 cand3 cand3_ok hk (by decide), Nw.hf_cand ok.ok ok.b1 cand3 cand3_ok hk (by decide)]
  exact h2 k hk
theorem bsl_M3 {a a' a2 : Option Addr} {n c n' c' n2 c2 : Nat} : bslOf Tryz.prog 22 3 [(0, .slice a n c), (1, .slice a' n' c'), (2, .slice a2 n2 c2)] = some (46, #[.slice a n c, .slice a' n' c', .slice a2 n2 c2]) := by kernel_rfl
theorem E_law18_awake : Ent Tryz.prog 31 := ent_of Tryz.func31 (by kernel_rfl) rfl
theorem law18_awake_c {w : World} : CR Tryz.prog 31 #[] w (Is (.bool true)) := by
 refine enter Tryz.func31 rfl Tryz.ntmps31 rfl ?_
 refine .seq (.region (.asg rfl rfl (.nil (.seq (.region ?_)))))
 refine .call _ rfl E_law18_three rfl law18_three_c fun v1 w1 e1 h1 => ?_
 refine .call _ rfl E_shift_Factors rfl (shift_Factors_c (o := []) upT h1 RL.nil) fun v2 w2 e2 h2 => ?_
 obtain ⟨vm, ve, rfl, hm, he⟩ := h2
 replace he : ve = .int .i64 0 := by rw [he, ok3]
 subst he
 rw [if_pos ok3] at hm
 replace hm : eM.R (fun _ => True) w2 vm (tabM 3 3 (nwOf net3 []).hf) := hm
 rw [hf3] at hm
 refine .mv rfl rfl (.ext rfl rfl rfl (.ext rfl rfl rfl (.asg rfl rfl (.asg rfl rfl (.nil (.seq (.region ?_)))))))
 refine .call _ rfl E_law18_three rfl law18_three_c fun v3 w3 e3 h3 => ?_
 refine .call _ rfl E_shift_Between rfl (shift_Between_c (o := []) (a := 1) (b := 2) upT h3 RL.nil) fun v4 w4 e4 h4 => ?_
 obtain ⟨vf, ve, rfl, hf, he⟩ := h4
 replace he : ve = .int .i64 0 := by rw [he, bt3.1]
 subst he
 rw [if_pos bt3.1] at hf
 replace hf : eV.R (fun _ => True) w4 vf (btV net3 [] 1 2) := hf
 rw [bt3.2] at hf
 have y4 := e3.trans e4
 have x4 := (e1.trans e2).trans y4
 refine .mv rfl rfl (.ext rfl rfl rfl (.ext rfl rfl rfl (.asg rfl rfl (.asg rfl rfl (.nil (.seq (.region (.mv rfl rfl (.eqlT rfl rfl rfl rfl (.mv rfl rfl (.gr rfl rfl rfl rfl (.mv rfl rfl (.gr rfl rfl rfl rfl (.eqlT rfl rfl rfl rfl (.pick rfl rfl rfl (.mv rfl rfl (.gr rfl rfl rfl rfl (.mv rfl rfl (.gr rfl rfl rfl rfl ?_)))))))))))))))))))
 refine .bsl _ rfl rfl bsl_L3 fun w5 b5 n5 => .gr rfl rfl rfl rfl ?_
 refine .call _ rfl E_law18_fifths rfl (law18_fifths_c (eI_new [0, -3, -2] 3 n5 upT rfl rfl (by decide) (by decide)) (by decide) (by decide)) fun v6 w6 e6 h6 => .gr rfl rfl rfl rfl ?_
 refine .bsl _ rfl rfl bsl_L3 fun w7 b7 n7 => .gr rfl rfl rfl rfl ?_
 refine .call _ rfl E_law18_fifths rfl (law18_fifths_c (eI_new [0, 2, -2] 3 n7 upT rfl rfl (by decide) (by decide)) (by decide) (by decide)) fun v8 w8 e8 h8 => .gr rfl rfl rfl rfl ?_
 refine .bsl _ rfl rfl bsl_L3 fun w9 b9 n9 => .gr rfl rfl rfl rfl ?_
 refine .call _ rfl E_law18_fifths rfl (law18_fifths_c (eI_new [0, -2, -3] 3 n9 upT rfl rfl (by decide) (by decide)) (by decide) (by decide)) fun v10 w10 e10 h10 => .gr rfl rfl rfl rfl ?_
 have e68 := n7.1.trans e8
 have e810 := n9.1.trans e10
 have h6 := ER.ext eV h6 (e68.trans e810)
 have h8 := ER.ext eV h8 e810
 obtain ⟨a6, c6, hv6, _⟩ := RL.len h6
 obtain ⟨a8, c8, hv8, _⟩ := RL.len h8
 obtain ⟨a10, c10, hv10, _⟩ := RL.len h10
 rw [tab_length] at hv6 hv8 hv10
 subst hv6 hv8 hv10
 refine .bsl _ rfl rfl bsl_M3 fun w11 b11 n11 => .gr rfl rfl rfl rfl ?_
 have y11 := (((n5.1.trans e6).trans e68).trans e810).trans n11.1
 have hw : eM.R (fun _ => True) w11 (.slice (some ⟨b11, 0, none⟩) 3 3) (want3.map fun l => tab l.length fun k => Rat.divInt (l.getD k 0) 5) := eS_new [_, _, _] _ n11 upT rfl rfl (by decide) (Els.snoc (Els.snoc (Els.snoc Els.nil h6) h8) h10)
 refine .call _ rfl E_ref04_Is rfl (isM_t (ER.ext eM hm (y4.trans y11)) hw rfl) fun v12 w12 e12 h12 => ?_
 subst h12
 refine .pick rfl rfl rfl (.mv rfl rfl (.gr rfl rfl rfl rfl (.mv rfl rfl (.gr rfl rfl rfl rfl ?_))))
 refine .bsl _ rfl rfl bsl_L3 fun w13 b13 n13 => .gr rfl rfl rfl rfl ?_
 refine .call _ rfl E_law18_fifths rfl (law18_fifths_c (eI_new [-1, 4, 1] 3 n13 upT rfl rfl (by decide) (by decide)) (by decide) (by decide)) fun v14 w14 e14 h14 => .gr rfl rfl rfl rfl ?_
 have y14 := (y11.trans e12).trans (n13.1.trans e14)
 refine .call _ rfl E_ref03_Is rfl (isV_t (ER.ext eV hf y14) h14 rfl) fun v15 w15 e15 h15 => ?_
 subst h15
 refine .pick rfl rfl rfl (.asg rfl rfl (.nil (.ret ?_)))
 exact .plain [_] Tryz.results31 ⟨rfl, trivial⟩ ⟨(x4.trans y14).trans e15, rfl⟩
end Go.Proofs.YthjnmfemndfijaaGreat

namespace Go.Kx
open Go Go.RowKit
section
variable {n : Nw}
end
end Go.Kx

namespace Go.Proofs.YthjnmfemndfijaaGreat
open Go Go.Kx Go.RowKit
theorem bsl_II1 {a : Option Addr} {n c : Nat} : bslOf Tryz.prog 103 1 [(0, .slice a n c)] = some (41, #[.slice a n c]) := by kernel_rfl
end Go.Proofs.YthjnmfemndfijaaGreat

namespace Go.Kx
open Go Go.RowKit
section
variable {n : Nw}
end
/-- a slice of one, to be appended to -/
theorem OwnL.one {α : Type} {E : ER α} {t : TypeId} {base : Nat} {X : Nat → Prop} {w w' : World} {b : Nat} {e : Value} {x : α} (hn : New w w' b t e.cells) (hb : base ≤ w.heap.size) (hs : e.cells.size = E.sz) (hx : E.R (fun k => X k ∧ k ≠ b) w' e x) : OwnL E t base X w' (.slice (some ⟨b, 0, none⟩) 1 1) [x] := by
 obtain ⟨_, hk, hb', _⟩ := hn
 have hc : cellsOf [e] = e.cells.toList := by simp [cellsOf]
 refine ⟨[e], ⟨by rw [hc]; simp [hs], .inr ⟨b, 1, _, rfl, by omega, hk, Nat.le_refl _, by decide, by simp [hs], by rw [hc, List.take_of_length_le (by simp [hs])]⟩⟩, rfl, fun i e' x' he hx' => ?_⟩
 have hi : i = 0 := by
  cases i with
  | zero => rfl
  | succ i => simp at he
 subst hi
 simp at he hx'
 subst he; subst hx'
 exact E.mono (fun k _ h => ⟨h.1, fun e => h.2 (by simpa [Value.ownBlock] using e.symm)⟩) hx
end Go.Kx

namespace Go.Kx
open Go Go.RowKit
theorem Els.append {α : Type} {E : ER α} {S : Nat → Prop} {w : World} {es fs : List Value} {l s : List α} (h : Els E S w es l) (h' : Els E S w fs s) : Els E S w (es ++ fs) (l ++ s) := by
 refine ⟨by rw [List.length_append, List.length_append, h.1, h'.1], fun i e x he hx => ?_⟩
 rw [List.getElem?_append] at he hx
 rw [h.1] at he
 split at he
 ·rename_i hi
  rw [if_pos hi] at hx
  exact h.2 i e x he hx
 ·rename_i hi
  rw [if_neg hi] at hx
  exact h'.2 _ e x he hx
section
variable {P : Program} {σ : Env} {w : World} {d : Option Tmp} {ty : TypeId} {pos : String} {af : Array Edge} {g : Option (Nat × Bool)} {α : Type} {E : ER α}
end
end Go.Kx

namespace Go.Proofs.YthjnmfemndfijaaGreat
open Go Go.Kx Go.RowKit
end Go.Proofs.YthjnmfemndfijaaGreat

namespace Go.Proofs.YthjnmfemndfijaaGreat
open Go Go.Kx Go.RowKit
theorem conE_val {n : NtV} {o : List Int} {a b : Int} (h : outE n o = 0) : (busB n a ∧ busB n b → conE n o a b = 0) ∧ (¬ (busB n a ∧ busB n b) → conE n o a b = 1) := by
 unfold conE
 rw [if_neg (by simpa using h)]
 exact ⟨fun h => if_pos h, fun h => if_neg h⟩
theorem btE_val {n : NtV} {o : List Int} {a b : Int} (h : outE n o = 0) : (busB n a ∧ busB n b → (nwOf n o).root a.toNat = (nwOf n o).root b.toNat → btE n o a b = 0) ∧ (busB n a ∧ busB n b → (nwOf n o).root a.toNat ≠ (nwOf n o).root b.toNat → btE n o a b = 8) ∧ (¬ (busB n a ∧ busB n b) → btE n o a b = 1) := by
 obtain ⟨h1, h2⟩ := conE_val (a := a) (b := b) h
 refine ⟨fun hb hr => ?_, fun hb hr => ?_, fun hb => ?_⟩
 ·unfold btE conB
  rw [if_neg (by simpa using h1 hb), if_pos (decide_eq_true ⟨h1 hb, hr⟩)]
 ·unfold btE conB
  rw [if_neg (by simpa using h1 hb), if_neg (by rw [decide_eq_false fun h => hr h.2]; decide)]
 ·unfold btE
  rw [if_pos (by rw [h2 hb]; decide), h2 hb]
theorem btE_sym {n : NtV} {o : List Int} {a b : Int} (h : outE n o = 0) : btE n o a b = btE n o b a := by
 obtain ⟨x1, x2, x3⟩ := btE_val (a := a) (b := b) h
 obtain ⟨y1, y2, y3⟩ := btE_val (a := b) (b := a) h
 by_cases hb : busB n a ∧ busB n b
 ·by_cases hr : (nwOf n o).root a.toNat = (nwOf n o).root b.toNat
  ·rw [x1 hb hr, y1 hb.symm hr.symm]
  ·rw [x2 hb hr, y2 hb.symm (Ne.symm hr)]
 ·rw [x3 hb, y3 fun h => hb h.symm]
theorem btE_tr {n : NtV} {o : List Int} {a b c : Int} (h : outE n o = 0) (ha : busB n a) (hb : busB n b) (hr : (nwOf n o).root a.toNat = (nwOf n o).root b.toNat) : btE n o b c = btE n o a c := by
 obtain ⟨x1, x2, x3⟩ := btE_val (a := a) (b := c) h
 obtain ⟨y1, y2, y3⟩ := btE_val (a := b) (b := c) h
 by_cases hc : busB n c
 ·by_cases hq : (nwOf n o).root b.toNat = (nwOf n o).root c.toNat
  ·rw [x1 ⟨ha, hc⟩ (hr.trans hq), y1 ⟨hb, hc⟩ hq]
  ·rw [x2 ⟨ha, hc⟩ (fun e => hq (hr.symm.trans e)), y2 ⟨hb, hc⟩ hq]
 ·rw [x3 fun h => hc h.2, y3 fun h => hc h.2]
theorem btV_vk {n : NtV} {o : List Int} (ok : nwOk n o) (a b : Nat) : vk 400000 (btV n o a b) := vk_tab fun k _ => by
 have := (hf_rsz ok k a).add (hf_rsz ok k b).neg
 rw [← Rat.sub_eq_add_neg] at this
 exact this.mono (by decide)
theorem rv_btV {n : NtV} {o : List Int} (a b k : Nat) : rv (btV n o a b) k = if k < n.ls.length then (nwOf n o).hf k a - (nwOf n o).hf k b else 0 := rv_tab ..
theorem eqV_dec {a b : List QV} (h : ∀ k, rv a k = rv b k) : decide (eqV a b) = true := decide_eq_true h
theorem law18_ShiftBetween_c {w : World} {vn vo : Value} {n : NtV} {o : List Int} {a b c : Int} (hn : eN.R (fun _ => True) w vn n) (ho : eI.R (fun _ => True) w vo o) : CR Tryz.prog 9 #[vn, vo, .int .i64 a, .int .i64 b, .int .i64 c] w (Is (.bool true)) := by
 obtain ⟨s, rfl, hs, hb⟩ := hn
 have hn : eN.R (fun _ => True) w (.agg #[.int .i64 n.b, s]) n := ⟨s, rfl, hs, hb⟩
 obtain ⟨ao, co, hvo, _⟩ := RL.len ho
 refine enter Tryz.func9 rfl Tryz.ntmps9 rfl ?_
 refine .seq (.region (.box rfl rfl fun w1 b2 n1 => .asg rfl rfl (.nil ?_)))
 obtain ⟨e1, k2, hb2, hs1⟩ := n1
 refine .seq (.seq (.region (.ldA ty_N rfl rfl k2 rfl (.mv rfl rfl (.bsl _ rfl rfl (by rw [hvo]; exact bsl_II1) fun w2 b19 n2 => ?_)))))
 have hl : eII.R (fun _ => True) w2 (.slice (some ⟨b19, 0, none⟩) 1 1) [o] := eS_new [vo] [o] n2 upT (by rw [hvo]) rfl (by decide) (Els.snoc Els.nil (ho.ext e1))
 have x2 := e1.trans n2.1
 refine .call _ rfl E_law14_Long rfl (law14_Long_c (hn.ext x2) hl) fun v3 w3 e3 h3 => ?_
 obtain ⟨bl, rfl⟩ := h3
 have x3 := x2.trans e3
 have k2 := (k2.ext n2.1).ext e3
 clear hl
 have hend : ∀ {W : World} {σ : Env}, Ext w W → Leave Tryz.prog Tryz.f9 201 (fun v w' => Ext w w' ∧ Is (.bool true) v w') ((10, .bool true) :: σ) [] W := fun h => .plain [_] Tryz.results9 ⟨rfl, trivial⟩ ⟨h, rfl⟩
 cases bl with
 | true =>
  refine .mv rfl rfl (.gs rfl rfl rfl rfl rfl (.gs rfl rfl rfl rfl rfl (.pick rfl rfl rfl (.mv rfl rfl (.gs rfl rfl rfl rfl rfl (.gs rfl rfl rfl rfl rfl (.gs rfl rfl rfl rfl rfl (.gs rfl rfl rfl rfl rfl (.pick rfl rfl rfl (.nil (.condT rfl (.seq (.region ?_)))))))))))))
  refine .call _ rfl E_law18_awake rfl law18_awake_c fun v4 w4 e4 h4 => ?_
  subst h4
  exact .asg rfl rfl (.nil (.ret (hend (x3.trans e4))))
 | false =>
 refine .mv rfl rfl (.gr rfl rfl rfl rfl ?_)
 refine .call _ rfl E_law18_awake rfl law18_awake_c fun v4 w4 e4 h4 => ?_
 subst h4
 have x4 := x3.trans e4
 have k2 := k2.ext e4
 refine .gr rfl rfl rfl rfl (.not_ rfl rfl (.pick rfl rfl rfl (.mv rfl rfl (.gr rfl rfl rfl rfl (.ldA ty_N rfl rfl k2 rfl (.gr rfl rfl rfl rfl (.mv rfl rfl (.gr rfl rfl rfl rfl ?_))))))))
 refine .call _ rfl E_net_Outs rfl (net_Outs_c (hn.ext x4) (ho.ext x4)) fun v5 w5 e5 h5 => ?_
 subst h5
 have x5 := x4.trans e5
 have k2 := k2.ext e5
 by_cases hE : outE n o = 0
 rotate_left
 ·refine .gr rfl rfl rfl rfl (.neqT rfl rfl rfl hE (.pick rfl rfl rfl (.nil (.condT rfl (.seq (.region ?_))))))
  refine .call _ rfl E_law18_awake rfl law18_awake_c fun v6 w6 e6 h6 => ?_
  subst h6
  exact .asg rfl rfl (.nil (.ret (hend (x5.trans e6))))
 have ok := nw_ok hE
 have hM10 : n.ls.length ≤ 10 := ok.m
 have hB6 := ok.b6
 have hnb := ok.b
 refine .gr rfl rfl rfl rfl (.neqF rfl rfl rfl hE (.pick rfl rfl rfl (.nil (.condF rfl (.skip (.seq (.region (.ldA ty_N rfl rfl k2 rfl (.mv rfl rfl ?_)))))))))
 refine .call _ rfl E_law18_told rfl (law18_told_c upT (hn.ext x5) (ho.ext x5) hE) fun v6 w6 e6 h6 => ?_
 obtain ⟨vm, vt, rfl, hm, rfl⟩ := h6
 have x6 := x5.trans e6
 have k2 := k2.ext e6
 refine .mv rfl rfl (.ext rfl rfl rfl (.ext rfl rfl rfl (.asg rfl rfl (.asg rfl rfl (.nil (.seq (.region (.ldA ty_N rfl rfl k2 rfl (.mv rfl rfl (.mv rfl rfl (.mv rfl rfl ?_)))))))))))
 refine .call _ rfl E_shift_Between rfl (shift_Between_c upT (hn.ext x6) (ho.ext x6)) fun v7 w7 e7 h7 => ?_
 obtain ⟨vf, ve, rfl, hf, he⟩ := h7
 replace he : ve = .int .i64 (btE n o a b) := he
 subst he
 have x7 := x6.trans e7
 have k2 := k2.ext e7
 refine .mv rfl rfl (.ext rfl rfl rfl (.ext rfl rfl rfl (.asg rfl rfl (.asg rfl rfl (.nil (.seq (.region (.ldA ty_N rfl rfl k2 rfl (.mv rfl rfl (.mv rfl rfl (.mv rfl rfl ?_)))))))))))
 refine .call _ rfl E_shift_Between rfl (shift_Between_c upT (hn.ext x7) (ho.ext x7)) fun v8 w8 e8 h8 => ?_
 obtain ⟨vg, ve, rfl, hg, he⟩ := h8
 replace he : ve = .int .i64 (btE n o a b) := by rw [btE_sym hE]; exact he
 rw [btE_sym (a := b) (b := a) hE] at hg
 subst he
 have x8 := x7.trans e8
 have k2 := k2.ext e8
 refine .mv rfl rfl (.ext rfl rfl rfl (.ext rfl rfl rfl (.asg rfl rfl (.asg rfl rfl (.nil (.seq (.seq (.region (.mv rfl rfl (.not_ rfl rfl (.mv rfl rfl (.gr rfl rfl rfl rfl (.mv rfl rfl (.gr rfl rfl rfl rfl (.mv rfl rfl (.gr rfl rfl rfl rfl (.neqF rfl rfl rfl rfl (.pick rfl rfl rfl (.nil (.condF rfl (.skip (.seq (.region (.ldA ty_N rfl rfl k2 rfl (.mv rfl rfl (.mv rfl rfl (.mv rfl rfl ?_)))))))))))))))))))))))))))
 refine .call _ rfl E_island_Connected rfl (island_Connected_c upT (hn.ext x8) (ho.ext x8)) fun v9 w9 e9 h9 => ?_
 obtain ⟨vj, ve, rfl, hj, he⟩ := h9
 replace hj : vj = .bool (conB n o a b) := hj
 replace he : ve = .int .i64 (conE n o a b) := he
 subst hj he
 have x9 := x8.trans e9
 have k2 := k2.ext e9
 have hm := ER.ext eM hm ((e7.trans e8).trans e9)
 have hf := ER.ext eV hf (e8.trans e9)
 have hg := ER.ext eV hg e9
 refine .mv rfl rfl (.ext rfl rfl rfl (.ext rfl rfl rfl (.asg rfl rfl (.asg rfl rfl (.nil (.seq ?_))))))
 obtain ⟨cb1, cb2⟩ := conE_val (a := a) (b := b) hE
 obtain ⟨bt1, bt2, bt3⟩ := btE_val (a := a) (b := b) hE
 by_cases hbus : busB n a ∧ busB n b
 rotate_left
 ·have hc := cb2 hbus
  have hbt := bt3 hbus
  rw [if_neg (by rw [hbt]; decide)] at hf hg
  rw [hc, hbt]
  refine .seq (.region ?_)
  refine .mv rfl rfl (.neqT rfl rfl rfl (by decide) (.mv rfl rfl (.gs rfl rfl rfl rfl rfl (.gs rfl rfl rfl rfl rfl (.pick rfl rfl rfl (.nil (.condT rfl (.seq (.region ?_)))))))))
  refine .mv rfl rfl (.neqT rfl rfl rfl (by decide) (.mv rfl rfl (.gr rfl rfl rfl rfl (.mv rfl rfl (.gr rfl rfl rfl rfl (.lenR un_V rfl rfl hf (.gr rfl rfl rfl rfl (.mv rfl rfl (.gr rfl rfl rfl rfl (.lenR un_V rfl rfl hg (.gr rfl rfl rfl rfl (.add rfl rfl rfl (.gr rfl rfl rfl rfl (.eqlT rfl rfl rfl rfl (.pick rfl rfl rfl (.mv rfl rfl (.gr rfl rfl rfl rfl (.mv rfl rfl (.gr rfl rfl rfl rfl (.eqlF rfl rfl rfl (by decide) (.gr rfl rfl rfl rfl (.mv rfl rfl (.gr rfl rfl rfl rfl (.mv rfl rfl (.gr rfl rfl rfl rfl (.mv rfl rfl (.gr rfl rfl rfl rfl (.eqlT rfl rfl rfl rfl (.gr rfl rfl rfl rfl (.pick rfl rfl rfl (.pick rfl rfl rfl (.asg rfl rfl (.nil (.ret ?_))))))))))))))))))))))))))))))))))
  exact hend x9
 by_cases hrr : (nwOf n o).root a.toNat = (nwOf n o).root b.toNat
 rotate_left
 ·have hc := cb1 hbus
  have hbt := bt2 hbus hrr
  have hcb : conB n o a b = false := by unfold conB; exact decide_eq_false fun h => hrr h.2
  rw [if_neg (by rw [hbt]; decide)] at hf hg
  rw [hc, hbt, hcb]
  refine .seq (.region ?_)
  refine .mv rfl rfl (.neqF rfl rfl rfl rfl (.mv rfl rfl (.gr rfl rfl rfl rfl (.mv rfl rfl (.gr rfl rfl rfl rfl (.not_ rfl rfl (.pick rfl rfl rfl (.nil (.condT rfl (.seq (.region ?_)))))))))))
  refine .mv rfl rfl (.neqT rfl rfl rfl (by decide) (.mv rfl rfl (.gr rfl rfl rfl rfl (.mv rfl rfl (.gr rfl rfl rfl rfl (.lenR un_V rfl rfl hf (.gr rfl rfl rfl rfl (.mv rfl rfl (.gr rfl rfl rfl rfl (.lenR un_V rfl rfl hg (.gr rfl rfl rfl rfl (.add rfl rfl rfl (.gr rfl rfl rfl rfl (.eqlT rfl rfl rfl rfl (.pick rfl rfl rfl (.mv rfl rfl (.gr rfl rfl rfl rfl (.mv rfl rfl (.gr rfl rfl rfl rfl (.eqlT rfl rfl rfl rfl (.gr rfl rfl rfl rfl (.mv rfl rfl (.gs rfl rfl rfl rfl rfl (.gs rfl rfl rfl rfl rfl (.gs rfl rfl rfl rfl rfl (.gr rfl rfl rfl rfl (.pick rfl rfl rfl (.pick rfl rfl rfl (.asg rfl rfl (.nil (.ret ?_)))))))))))))))))))))))))))))))
  exact hend x9
 have hc := cb1 hbus
 have hbt := bt1 hbus hrr
 have hcb : conB n o a b = true := by unfold conB; exact decide_eq_true ⟨hc, hrr⟩
 rw [if_pos hbt] at hf hg
 rw [hc, hbt, hcb]
 obtain ⟨ha1, ha2⟩ := hbus.1
 obtain ⟨hb1, hb2'⟩ := hbus.2
 obtain ⟨a', rfl⟩ : ∃ a' : Nat, a = a' := ⟨a.toNat, by omega⟩
 obtain ⟨b', rfl⟩ : ∃ b' : Nat, b = b' := ⟨b.toNat, by omega⟩
 have haB : a' < (nwOf n o).B := by omega
 have hbB : b' < (nwOf n o).B := by omega
 replace hrr : (nwOf n o).root a' = (nwOf n o).root b' := hrr
 replace hf : eV.R (fun _ => True) w9 vf (btV n o a' b') := hf
 replace hg : eV.R (fun _ => True) w9 vg (btV n o b' a') := hg
 refine .seq (.region ?_)
 refine .mv rfl rfl (.neqF rfl rfl rfl rfl (.mv rfl rfl (.gr rfl rfl rfl rfl (.mv rfl rfl (.gr rfl rfl rfl rfl (.not_ rfl rfl (.pick rfl rfl rfl (.nil (.condF rfl (.skip (.seq (.region (.mv rfl rfl (.mv rfl rfl (.lenR un_M rfl rfl hm (.fa fld_N0 rfl rfl (.ld ty_int rfl rfl k2 rfl ?_)))))))))))))))))
 rw [tabM_length, hnb]
 have hkm := (hf_mk ok n.ls.length (nwOf n o).B)
 refine .call _ rfl E_mat_Resize rfl (mat_Resize_c (L := 174764) upT hm hkm (by decide) (by decide)) fun v10 w10 e10 h10 => ?_
 have hcut : ∀ m : Nat, m ≤ 1024 → cutN (m : Int) = m := fun m hm => by unfold cutN; omega
 rw [hcut _ (by omega), hcut _ (by omega)] at h10
 have hmm : tabM n.ls.length (nwOf n o).B (rm (tabM n.ls.length (nwOf n o).B (nwOf n o).hf)) = tabM n.ls.length (nwOf n o).B (nwOf n o).hf := tabM_congr' fun k b hk hb => by rw [rm_tabM, if_pos ⟨hk, hb⟩]
 rw [hmm] at h10
 refine .call _ rfl E_mat_Transpose rfl (mat_Transpose_c (L := 174764) upT h10 hkm (by decide) (by decide) (by rw [tabM_length]; omega) (by have := colsOf_tabM n.ls.length (nwOf n o).B (nwOf n o).hf; omega)) fun vt w11 e11 ht => .asg rfl rfl (.nil ?_)
 have y11 := e10.trans e11
 have x11 := x9.trans y11
 have k2 := k2.ext y11
 have hm := ER.ext eM hm y11
 have hf := ER.ext eV hf y11
 have hg := ER.ext eV hg y11
 rw [tabM_length, cols_tabM] at ht
 refine .seq (.seq (.region ?_))
 have hM0 : (n.ls.length : Int) = 0 ∨ 0 < (n.ls.length : Int) := by omega
 rcases Nat.eq_zero_or_pos n.ls.length with hM0 | hMp
 ·refine .mv rfl rfl (.neqF rfl rfl rfl rfl (.mv rfl rfl (.gr rfl rfl rfl rfl (.mv rfl rfl (.gr rfl rfl rfl rfl (.lssF rfl rfl rfl (by omega) (.pick rfl rfl rfl (.mv rfl rfl (.gr rfl rfl rfl rfl (.mv rfl rfl (.gr rfl rfl rfl rfl (.fa fld_N0 rfl rfl (.gr rfl rfl rfl rfl (.ld ty_int rfl rfl k2 rfl (.gr rfl rfl rfl rfl (.geqF rfl rfl rfl (by omega) (.pick rfl rfl rfl (.mv rfl rfl (.gr rfl rfl rfl rfl (.mv rfl rfl (.gr rfl rfl rfl rfl (.lssF rfl rfl rfl (by omega) (.pick rfl rfl rfl (.mv rfl rfl (.gr rfl rfl rfl rfl (.mv rfl rfl (.gr rfl rfl rfl rfl (.fa fld_N0 rfl rfl (.gr rfl rfl rfl rfl (.ld ty_int rfl rfl k2 rfl (.gr rfl rfl rfl rfl (.geqF rfl rfl rfl (by omega) (.pick rfl rfl rfl (.mv rfl rfl (.gr rfl rfl rfl rfl (.mv rfl rfl (.gr rfl rfl rfl rfl (.lenR un_M rfl rfl hm ?_))))))))))))))))))))))))))))))))))))))
  rw [tabM_length]
  refine .gr rfl rfl rfl rfl (.gtrF rfl rfl rfl (by omega) (.gr rfl rfl rfl rfl (.mv rfl rfl (.gs rfl rfl rfl rfl rfl (.gs rfl rfl rfl rfl rfl (.gs rfl rfl rfl rfl rfl (.gs rfl rfl rfl rfl rfl (.gs rfl rfl rfl rfl rfl (.gr rfl rfl rfl rfl (.pick rfl rfl rfl (.pick rfl rfl rfl (.nil (.condF rfl (.skip (.seq (.seq (.region (.mv rfl rfl (.lenR un_M rfl rfl hm ?_)))))))))))))))))))
  rw [tabM_length]
  have hf0 : (btV n o a' b').length = 0 := by unfold btV; rw [tab_length]; exact hM0
  have hg0 : (btV n o b' a').length = 0 := by unfold btV; rw [tab_length]; exact hM0
  refine .eqlT rfl rfl rfl (by omega) (.nil (.condT rfl (.seq (.region (.mv rfl rfl (.lenR un_V rfl rfl hf (.mv rfl rfl (.lenR un_V rfl rfl hg (.add rfl rfl rfl ?_)))))))))
  rw [hf0, hg0]
  exact .eqlT rfl rfl rfl rfl (.asg rfl rfl (.nil (.ret (hend x11))))
 rw [if_neg (by omega)] at ht
 refine .mv rfl rfl (.neqF rfl rfl rfl rfl (.mv rfl rfl (.gr rfl rfl rfl rfl (.mv rfl rfl (.gr rfl rfl rfl rfl (.lssF rfl rfl rfl (by omega) (.pick rfl rfl rfl (.mv rfl rfl (.gr rfl rfl rfl rfl (.mv rfl rfl (.gr rfl rfl rfl rfl (.fa fld_N0 rfl rfl (.gr rfl rfl rfl rfl (.ld ty_int rfl rfl k2 rfl (.gr rfl rfl rfl rfl (.geqF rfl rfl rfl (by omega) (.pick rfl rfl rfl (.mv rfl rfl (.gr rfl rfl rfl rfl (.mv rfl rfl (.gr rfl rfl rfl rfl (.lssF rfl rfl rfl (by omega) (.pick rfl rfl rfl (.mv rfl rfl (.gr rfl rfl rfl rfl (.mv rfl rfl (.gr rfl rfl rfl rfl (.fa fld_N0 rfl rfl (.gr rfl rfl rfl rfl (.ld ty_int rfl rfl k2 rfl (.gr rfl rfl rfl rfl (.geqF rfl rfl rfl (by omega) (.pick rfl rfl rfl (.mv rfl rfl (.gr rfl rfl rfl rfl (.mv rfl rfl (.gr rfl rfl rfl rfl (.lenR un_M rfl rfl hm ?_))))))))))))))))))))))))))))))))))))))
 rw [tabM_length]
 refine .gr rfl rfl rfl rfl (.gtrT rfl rfl rfl (by omega) (.gr rfl rfl rfl rfl (.mv rfl rfl (.gr rfl rfl rfl rfl (.mv rfl rfl (.gr rfl rfl rfl rfl (.lenR un_M rfl rfl ht ?_)))))))
 rw [tabM_length]
 refine .gr rfl rfl rfl rfl (.fa fld_N0 rfl rfl (.gr rfl rfl rfl rfl (.ld ty_int rfl rfl k2 rfl (.gr rfl rfl rfl rfl (.neqF rfl rfl rfl (by omega) (.gr rfl rfl rfl rfl (.pick rfl rfl rfl (.pick rfl rfl rfl (.nil (.condF rfl (.skip (.seq (.seq (.region (.mv rfl rfl (.lenR un_M rfl rfl hm ?_))))))))))))))))
 rw [tabM_length]
 refine .eqlF rfl rfl rfl (by omega) (.nil (.condF rfl (.skip (.seq (.region (.ldA ty_N rfl rfl k2 rfl (.mv rfl rfl (.mv rfl rfl (.mv rfl rfl ?_)))))))))
 refine .call _ rfl E_shift_Between rfl (shift_Between_c upT (hn.ext x11) (ho.ext x11)) fun v12 w12 e12 h12 => ?_
 obtain ⟨vx, ve, rfl, hx, he⟩ := h12
 replace he : ve = .int .i64 (btE n o b' c) := he
 subst he
 have x12 := x11.trans e12
 refine .mv rfl rfl (.ext rfl rfl rfl (.ext rfl rfl rfl (.asg rfl rfl (.asg rfl rfl (.nil (.seq (.region (.ldA ty_N rfl rfl (k2.ext e12) rfl (.mv rfl rfl (.mv rfl rfl (.mv rfl rfl ?_)))))))))))
 refine .call _ rfl E_shift_Between rfl (shift_Between_c upT (hn.ext x12) (ho.ext x12)) fun v13 w13 e13 h13 => ?_
 obtain ⟨vy, ve, rfl, hy, he⟩ := h13
 have htr := btE_tr (c := c) hE hbus.1 hbus.2 hrr
 rw [← htr] at hy
 replace he : ve = .int .i64 (btE n o b' c) := by rw [htr]; exact he
 subst he
 have zz13 := x12.trans e13
 have y13 := e12.trans e13
 have hf := ER.ext eV hf y13
 have hg := ER.ext eV hg y13
 have ht := ER.ext eM ht y13
 have hx := ER.ext eV hx e13
 refine .mv rfl rfl (.ext rfl rfl rfl (.ext rfl rfl rfl (.asg rfl rfl (.asg rfl rfl (.nil (.seq ?_))))))
 have hkt : ∀ b, vk 400000 (tab n.ls.length fun k => (nwOf n o).hf k b) := fun b => vk_tab fun k _ => (hf_rsz ok k b).mono (by decide)
 have hrt : ∀ b, b < (nwOf n o).B → (tabM (nwOf n o).B n.ls.length fun i k => rm (tabM n.ls.length (nwOf n o).B (nwOf n o).hf) k i)[b]? = some (tab n.ls.length fun k => (nwOf n o).hf k b) := fun b hb => by
  rw [tabM_get hb]
  congr 1
  exact tab_congr fun k hk => by rw [rm_tabM, if_pos ⟨hk, hb⟩]
 have hbl : ∀ a b, (btV n o a b).length = n.ls.length := fun a b => tab_length ..
 have hq1 : qk 400000 (qc ((-1 : Int) : Rat)) := qk_qc ((Rsz.int (L := 1) (-1) (by decide) (by decide)).mono (by decide))
 have hsub : vk 1000000 (tab (max (tab n.ls.length fun k => (nwOf n o).hf k a').length (tab n.ls.length fun k => (nwOf n o).hf k b').length) fun k => rv (tab n.ls.length fun k => (nwOf n o).hf k a') k - rv (tab n.ls.length fun k => (nwOf n o).hf k b') k) := vk_tab fun k _ => by
  have := ((hkt a').rsz (by decide) k).add ((hkt b').rsz (by decide) k).neg
  rw [← Rat.sub_eq_add_neg] at this
  exact this.mono (by decide)
 have hscl : vk 1000000 (tab (btV n o b' a').length fun i => qval (qc ((-1 : Int) : Rat)) * rv (btV n o b' a') i) := vk_tab fun k _ => by
  have := hq1.2.mul ((btV_vk ok b' a').rsz (by decide) k)
  exact this.mono (by decide)
 have he1 : ∀ k, rv (btV n o a' b') k = rv (tab (max (tab n.ls.length fun k => (nwOf n o).hf k a').length (tab n.ls.length fun k => (nwOf n o).hf k b').length) fun k => rv (tab n.ls.length fun k => (nwOf n o).hf k a') k - rv (tab n.ls.length fun k => (nwOf n o).hf k b') k) k := fun k => by
  rw [rv_btV, rv_tab, tab_length, tab_length, Nat.max_self, rv_tab, rv_tab]
  split <;> rfl
 have he2 : ∀ k, rv (btV n o a' b') k = rv (tab (btV n o b' a').length fun i => qval (qc ((-1 : Int) : Rat)) * rv (btV n o b' a') i) k := fun k => by
  rw [rv_btV, rv_tab, hbl, rv_btV, qval_qc]
  split
  ·rw [show (((-1 : Int)) : Rat) = -1 from rfl]; grind
  ·rfl
 by_cases hj0 : btE n o b' c = 0
 ·rw [if_pos hj0] at hx hy
  replace hx : eV.R (fun _ => True) w13 vx (btV n o b' c.toNat) := hx
  replace hy : eV.R (fun _ => True) w13 vy (btV n o a' c.toNat) := hy
  have hadd : vk 1000000 (tab (max (btV n o a' b').length (btV n o b' c.toNat).length) fun k => rv (btV n o a' b') k + rv (btV n o b' c.toNat) k) := vk_tab fun k _ => (((btV_vk ok a' b').rsz (by decide) k).add ((btV_vk ok b' c.toNat).rsz (by decide) k)).mono (by decide)
  have he3 : ∀ k, rv (btV n o a' c.toNat) k = rv (tab (max (btV n o a' b').length (btV n o b' c.toNat).length) fun k => rv (btV n o a' b') k + rv (btV n o b' c.toNat) k) k := fun k => by
   rw [rv_btV, rv_tab, hbl, hbl, Nat.max_self, rv_btV, rv_btV]
   split
   ·grind
   ·rfl
  refine .par follows 31 ((.inl _) :: (.inl _) :: (.inl _) :: (.inr (Ptr eV (fun _ => True) (tab n.ls.length fun k => (nwOf n o).hf k a'))) :: (.inr (eV.at (fun _ => True) (tab n.ls.length fun k => (nwOf n o).hf k a'))) :: (.inl _) :: (.inl _) :: (.inr (Ptr eV (fun _ => True) (tab n.ls.length fun k => (nwOf n o).hf k b'))) :: (.inr (eV.at (fun _ => True) (tab n.ls.length fun k => (nwOf n o).hf k b'))) :: (.inr (eV.at (fun _ => True) (tab (max (tab n.ls.length fun k => (nwOf n o).hf k a').length (tab n.ls.length fun k => (nwOf n o).hf k b').length) fun k => rv (tab n.ls.length fun k => (nwOf n o).hf k a') k - rv (tab n.ls.length fun k => (nwOf n o).hf k b') k))) :: (.inl (.bool true)) :: (.inl (.bool true)) :: (.inl _) :: (.inr (eQ.at (fun _ => True) (qc ((-1 : Int) : Rat)))) :: (.inl _) :: (.inr (eV.at (fun _ => True) (tab (btV n o b' a').length fun i => qval (qc ((-1 : Int) : Rat)) * rv (btV n o b' a') i))) :: (.inl (.bool true)) :: (.inl (.bool true)) :: (.inl (.bool true)) :: (.inl _) :: (.inl _) :: (.inl (.bool true)) :: (.inl (.bool true)) :: (.inl (.bool true)) :: (.inl _) :: (.inl (.bool false)) :: (.inl (.bool false)) :: (.inl _) :: (.inl _) :: (.inl _) :: (.inr (eV.at (fun _ => True) (tab (max (btV n o a' b').length (btV n o b' c.toNat).length) fun k => rv (btV n o a' b') k + rv (btV n o b' c.toNat) k))) :: []) ([] :: [] :: [] :: [(168, 1), (169, 2)] :: [(170, 3)] :: [] :: [] :: [(172, 5), (173, 6)] :: [(174, 7)] :: [(171, 4), (175, 8)] :: [(167, 0), (176, 9)] :: [(177, 10)] :: [(178, 11)] :: [(178, 11)] :: [(178, 11)] :: [(180, 13), (181, 14), (178, 11)] :: [(179, 12), (182, 15), (178, 11)] :: [(178, 11), (183, 16)] :: [(184, 17)] :: [(185, 18)] :: [(185, 18)] :: [(186, 19), (187, 20), (185, 18)] :: [(185, 18), (188, 21)] :: [(189, 22)] :: [(190, 23)] :: [(191, 24), (190, 23)] :: [(192, 25), (190, 23)] :: [(193, 26)] :: [(193, 26)] :: [(193, 26)] :: [(195, 28), (196, 29), (193, 26)] :: []) (by kernel_rfl) ⟨
   fun w e => (v_mv rfl).ob,
   fun w e => (v_mv rfl).ob,
   fun w e => (v_mv rfl).ob,
   fun w e => ob_ixN (i := a') un_M ty_V rfl (ER.ext eM ht e) rfl (hrt a' haB),
   fun w e x3 hx3 => ob_ldE ty_V rfl hx3,
   fun w e => (v_mv rfl).ob,
   fun w e => (v_mv rfl).ob,
   fun w e => ob_ixN (i := b') un_M ty_V rfl (ER.ext eM ht e) rfl (hrt b' hbB),
   fun w e x7 hx7 => ob_ldE ty_V rfl hx7,
   fun w e x4 hx4 x8 hx8 => (g_call _ E_vec_Sub rfl (vec_Sub_c (L := 400000) upT hx4 hx8 (by rw [tab_length]; omega) (by rw [tab_length]; omega) (hkt _) (hkt _) (by decide) (by decide))).ob (st_at _ _ _),
   fun w e x9 hx9 => by
   have := vec_Equal_c (L := 1000000) upT (ER.ext eV hf e) hx9 (by rw [hbl]; omega) (by rw [tab_length, tab_length, tab_length]; omega) ((btV_vk ok _ _).mono (by decide)) hsub (by decide) (by decide)
   rw [eqV_dec he1] at this
   exact (g_call _ E_vec_Equal rfl this).obIs,
   fun w e => (v_mv rfl).ob,
   fun w e => (v_mv rfl).ob,
   fun w e => (g_call _ E_frac_FromInt64 rfl (frac_FromInt64_c upT (by decide) (by decide))).ob (st_at _ _ _),
   fun w e => (v_mv rfl).ob,
   fun w e x13 hx13 => (g_call _ E_vec_Scale rfl (vec_Scale_c (L := 400000) upT hx13 (ER.ext eV hg e) hq1 (btV_vk ok _ _) (by decide) (by decide) (by rw [hbl]; omega))).ob (st_at _ _ _),
   fun w e x15 hx15 => by
   have := vec_Equal_c (L := 1000000) upT (ER.ext eV hf e) hx15 (by rw [hbl]; omega) (by rw [tab_length, hbl]; omega) ((btV_vk ok _ _).mono (by decide)) hscl (by decide) (by decide)
   rw [eqV_dec he2] at this
   exact (g_call _ E_vec_Equal rfl this).obIs,
   fun w e => (v_pickT rfl rfl).ob,
   fun w e => (v_mv rfl).ob,
   fun w e => (v_mv rfl).ob,
   fun w e => (v_mv rfl).ob,
   fun w e => ((v_eql rfl rfl).eq (by simp)).ob,
   fun w e => (v_pickT rfl rfl).ob,
   fun w e => (v_mv rfl).ob,
   fun w e => (v_mv rfl).ob,
   fun w e => ((v_neq rfl rfl).eq (by simp [hj0])).ob,
   fun w e => (v_mv rfl).ob,
   fun w e => (v_mv rfl).ob,
   fun w e => (v_mv rfl).ob,
   fun w e => (v_mv rfl).ob,
   fun w e => (g_call _ E_vec_Add rfl (vec_Add_c (L := 400000) upT (ER.ext eV hf e) (ER.ext eV hx e) (by rw [hbl]; omega) (by rw [hbl]; omega) (btV_vk ok _ _) (btV_vk ok _ _) (by decide) (by decide))).ob (st_at _ _ _), trivial⟩ ?_
  intro w14 e14 x3 hx3 x4 hx4 x7 hx7 x8 hx8 x9 hx9 x13 hx13 x15 hx15 x30 hx30
  have hq := vec_Equal_c (L := 1000000) upT (ER.ext eV hy e14) hx30 (by rw [hbl]; omega) (by rw [tab_length, hbl, hbl]; omega) ((btV_vk ok _ _).mono (by decide)) hadd (by decide) (by decide)
  rw [eqV_dec he3] at hq
  refine .gr rfl rfl rfl rfl ?_
  refine .call _ rfl E_vec_Equal rfl hq fun v15 w15 e15 h15 => ?_
  subst h15
  exact .gr rfl rfl rfl rfl (.pick rfl rfl rfl (.pick rfl rfl rfl (.asg rfl rfl (.nil (.ret (hend ((zz13.trans e14).trans e15)))))))
 ·refine .par follows 31 ((.inl _) :: (.inl _) :: (.inl _) :: (.inr (Ptr eV (fun _ => True) (tab n.ls.length fun k => (nwOf n o).hf k a'))) :: (.inr (eV.at (fun _ => True) (tab n.ls.length fun k => (nwOf n o).hf k a'))) :: (.inl _) :: (.inl _) :: (.inr (Ptr eV (fun _ => True) (tab n.ls.length fun k => (nwOf n o).hf k b'))) :: (.inr (eV.at (fun _ => True) (tab n.ls.length fun k => (nwOf n o).hf k b'))) :: (.inr (eV.at (fun _ => True) (tab (max (tab n.ls.length fun k => (nwOf n o).hf k a').length (tab n.ls.length fun k => (nwOf n o).hf k b').length) fun k => rv (tab n.ls.length fun k => (nwOf n o).hf k a') k - rv (tab n.ls.length fun k => (nwOf n o).hf k b') k))) :: (.inl (.bool true)) :: (.inl (.bool true)) :: (.inl _) :: (.inr (eQ.at (fun _ => True) (qc ((-1 : Int) : Rat)))) :: (.inl _) :: (.inr (eV.at (fun _ => True) (tab (btV n o b' a').length fun i => qval (qc ((-1 : Int) : Rat)) * rv (btV n o b' a') i))) :: (.inl (.bool true)) :: (.inl (.bool true)) :: (.inl (.bool true)) :: (.inl _) :: (.inl _) :: (.inl (.bool true)) :: (.inl (.bool true)) :: (.inl (.bool true)) :: (.inl _) :: (.inl (.bool true)) :: (.inl (.bool true)) :: (.inl undef) :: (.inl undef) :: (.inl undef) :: (.inl undef) :: []) ([] :: [] :: [] :: [(168, 1), (169, 2)] :: [(170, 3)] :: [] :: [] :: [(172, 5), (173, 6)] :: [(174, 7)] :: [(171, 4), (175, 8)] :: [(167, 0), (176, 9)] :: [(177, 10)] :: [(178, 11)] :: [(178, 11)] :: [(178, 11)] :: [(180, 13), (181, 14), (178, 11)] :: [(179, 12), (182, 15), (178, 11)] :: [(178, 11), (183, 16)] :: [(184, 17)] :: [(185, 18)] :: [(185, 18)] :: [(186, 19), (187, 20), (185, 18)] :: [(185, 18), (188, 21)] :: [(189, 22)] :: [(190, 23)] :: [(191, 24), (190, 23)] :: [(192, 25), (190, 23)] :: [(193, 26)] :: [(193, 26)] :: [(193, 26)] :: [(195, 28), (196, 29), (193, 26)] :: []) (by kernel_rfl) ⟨
   fun w e => (v_mv rfl).ob,
   fun w e => (v_mv rfl).ob,
   fun w e => (v_mv rfl).ob,
   fun w e => ob_ixN (i := a') un_M ty_V rfl (ER.ext eM ht e) rfl (hrt a' haB),
   fun w e x3 hx3 => ob_ldE ty_V rfl hx3,
   fun w e => (v_mv rfl).ob,
   fun w e => (v_mv rfl).ob,
   fun w e => ob_ixN (i := b') un_M ty_V rfl (ER.ext eM ht e) rfl (hrt b' hbB),
   fun w e x7 hx7 => ob_ldE ty_V rfl hx7,
   fun w e x4 hx4 x8 hx8 => (g_call _ E_vec_Sub rfl (vec_Sub_c (L := 400000) upT hx4 hx8 (by rw [tab_length]; omega) (by rw [tab_length]; omega) (hkt _) (hkt _) (by decide) (by decide))).ob (st_at _ _ _),
   fun w e x9 hx9 => by
   have := vec_Equal_c (L := 1000000) upT (ER.ext eV hf e) hx9 (by rw [hbl]; omega) (by rw [tab_length, tab_length, tab_length]; omega) ((btV_vk ok _ _).mono (by decide)) hsub (by decide) (by decide)
   rw [eqV_dec he1] at this
   exact (g_call _ E_vec_Equal rfl this).obIs,
   fun w e => (v_mv rfl).ob,
   fun w e => (v_mv rfl).ob,
   fun w e => (g_call _ E_frac_FromInt64 rfl (frac_FromInt64_c upT (by decide) (by decide))).ob (st_at _ _ _),
   fun w e => (v_mv rfl).ob,
   fun w e x13 hx13 => (g_call _ E_vec_Scale rfl (vec_Scale_c (L := 400000) upT hx13 (ER.ext eV hg e) hq1 (btV_vk ok _ _) (by decide) (by decide) (by rw [hbl]; omega))).ob (st_at _ _ _),
   fun w e x15 hx15 => by
   have := vec_Equal_c (L := 1000000) upT (ER.ext eV hf e) hx15 (by rw [hbl]; omega) (by rw [tab_length, hbl]; omega) ((btV_vk ok _ _).mono (by decide)) hscl (by decide) (by decide)
   rw [eqV_dec he2] at this
   exact (g_call _ E_vec_Equal rfl this).obIs,
   fun w e => (v_pickT rfl rfl).ob,
   fun w e => (v_mv rfl).ob,
   fun w e => (v_mv rfl).ob,
   fun w e => (v_mv rfl).ob,
   fun w e => ((v_eql rfl rfl).eq (by simp)).ob,
   fun w e => (v_pickT rfl rfl).ob,
   fun w e => (v_mv rfl).ob,
   fun w e => (v_mv rfl).ob,
   fun w e => ((v_neq rfl rfl).eq (by simp [hj0])).ob,
   fun w e => (v_mv rfl).ob,
   fun w e => rfl,
   fun w e => rfl,
   fun w e => rfl,
   fun w e => rfl, trivial⟩ ?_
  intro w14 e14 x3 hx3 x4 hx4 x7 hx7 x8 hx8 x9 hx9 x13 hx13 x15 hx15
  exact .gs rfl rfl rfl rfl rfl (.gr rfl rfl rfl rfl (.pick rfl rfl rfl (.pick rfl rfl rfl (.asg rfl rfl (.nil (.ret (hend (zz13.trans e14))))))))
end Go.Proofs.YthjnmfemndfijaaGreat

namespace Go.Kx
open Go Go.RowKit Go.ChangeShapes Go.WideShapes
section
variable {H : Type} {enc : TypeId × Value → H} {P : Program} {W : World}
def sh4 (P : Program) (t : TypeId) : Option (List (TypeId × Nat)) :=
 match P.underlying t with
 | some (.struct fs) => if fs.size = 4 then some (fs.toList.map fun f => (f.type, f.offset)) else none
 | _ => none
theorem opn_int4 {t ti tj : TypeId} (hs : sh4 P t = some [(ti, 0), (ti, 1), (tj, 2), (tj, 3)]) (hi : P.underlying ti = some (.int .i64)) (hj : P.underlying tj = some (.int .i64)) (hci : P.cellsOf ti = 1) (hcj : P.cellsOf tj = 1) (hct : P.cellsOf t = 4) : Opn enc P W eL t (fun _ _ => True) := by
 intro fuel cs x hx
 unfold sh4 at hs
 split at hs
 ·rename_i fs hu
  split at hs
  ·rename_i hsz
   simp only [Option.some.injEq] at hs
   obtain ⟨l⟩ := fs
   match l, hsz with
   | [f0, f1, f2, f3], _ =>
    simp only [List.map_cons, List.map_nil, List.cons.injEq, Prod.mk.injEq, and_true] at hs
    obtain ⟨⟨h0, o0⟩, ⟨h1, o1⟩, ⟨h2, o2⟩, h3, o3⟩ := hs
    obtain ⟨y0, y1, y2, y3, n, rfl, hl, g0, g1, g2, g3⟩ := Joins.trod_struct4 hu hx
    rw [h0, o0, hci] at g0
    rw [h1, o1, hci] at g1
    rw [h2, o2, hcj] at g2
    rw [h3, o3, hcj] at g3
    rw [hct] at hl
    obtain ⟨c0, c1, c2, c3, rfl⟩ : ∃ c0 c1 c2 c3, cs = [c0, c1, c2, c3] := by
     match cs, hl with
     | [c0, c1, c2, c3], _ => exact ⟨c0, c1, c2, c3, rfl⟩
    obtain ⟨n0, e0, _, w0⟩ := DataW.trod_int hi g0
    obtain ⟨n1, e1, _, w1⟩ := DataW.trod_int hi g1
    obtain ⟨n2, e2, _, w2⟩ := DataW.trod_int hj g2
    obtain ⟨n3, e3, _, w3⟩ := DataW.trod_int hj g3
    simp at e0 e1 e2 e3
    subst e0 e1 e2 e3
    exact ⟨.agg #[.int .i64 n0, .int .i64 n1, .int .i64 n2, .int .i64 n3], ⟨n0, n1, n2, n3⟩, rfl, ⟨rfl, wf_bd w0, wf_bd w1, wf_bd w2, wf_bd w3⟩, trivial⟩
  ·cases hs
 ·cases hs
theorem opn_N {t ti tl te : TypeId} (hs : sh2 P t = some ((ti, 0), (tl, 1))) (hi : P.underlying ti = some (.int .i64)) (hci : P.cellsOf ti = 1) (hcl : P.cellsOf tl = 1) (hct : P.cellsOf t = 2) (hl : P.underlying tl = some (.slice te)) (hce : P.cellsOf te = 4) (he : Opn enc P W eL te (fun _ _ => True)) : Opn enc P W eN t (fun _ _ => True) := by
 intro fuel cs x hx
 obtain ⟨y0, y1, n, rfl, hlen, h0, h1⟩ := sh2_open hs hx
 rw [hci] at h0
 rw [hcl] at h1
 rw [hct] at hlen
 obtain ⟨c0, c1, rfl⟩ : ∃ c0 c1, cs = [c0, c1] := by
  match cs, hlen with
  | [c0, c1], _ => exact ⟨c0, c1, rfl⟩
 obtain ⟨b, hb', _, hw⟩ := DataW.trod_int hi h0
 simp at hb'
 subst hb'
 obtain ⟨e, l, he', hR, _⟩ := (Opn.slice (Z := fun _ _ => True) (E := eL) (by decide) hl hce he) n _ _ h1
 obtain ⟨a, c, rfl, _⟩ := RL.len hR
 simp [Value.cells] at he'
 subst he'
 exact ⟨.agg #[.int .i64 b, .slice a l.length c], ⟨b, l⟩, rfl, ⟨_, rfl, hR, wf_bd hw⟩, trivial⟩
end
end Go.Kx
namespace Go.Proofs.YthjnmfemndfijaaGreat
open Go Go.Kx Go.RowKit
section
variable {H : Type} {enc : TypeId × Value → H} {W : World}
theorem opnN : Opn enc Tryz.prog W eN 40 (fun _ _ => True) := opn_N (ti := 3) (tl := 38) (te := 58) (by kernel_rfl) un_int (by kernel_rfl) (by kernel_rfl) (by kernel_rfl) un_Ls (by kernel_rfl) (opn_int4 (ti := 3) (tj := 2) (by kernel_rfl) un_int un_i64 (by kernel_rfl) (by kernel_rfl) (by kernel_rfl))
theorem opnH : Opn enc Tryz.prog W eI 41 (ZL fun _ _ => True) := Opn.slice (by decide) un_I (by kernel_rfl) (opn_int un_int)
end
end Go.Proofs.YthjnmfemndfijaaGreat
