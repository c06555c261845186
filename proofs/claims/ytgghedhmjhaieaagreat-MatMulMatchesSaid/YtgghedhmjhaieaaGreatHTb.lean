/-
  law 04: MatRing
-/
import Derived.Test.YtgghedhmjhaieaaGreatG9
namespace Go.Proofs.YtgghedhmjhaieaaGreat
open Go Go.Kx Go.RowKit

theorem bsl_MM2 {a a' : Option Addr} {n c n' c' : Nat} : bslOf Tryz.prog 47 2 [(0, .slice a n c), (1, .slice a' n' c')] = some (22, #[.slice a n c, .slice a' n' c']) := by kernel_rfl
theorem bsl_MM3 {a a' b : Option Addr} {n c n' c' m d : Nat} : bslOf Tryz.prog 47 3 [(0, .slice a n c), (1, .slice a' n' c'), (2, .slice b m d)] = some (22, #[.slice a n c, .slice a' n' c', .slice b m d]) := by kernel_rfl
theorem bsl_M2 {a a' : Option Addr} {n c n' c' : Nat} : bslOf Tryz.prog 22 2 [(0, .slice a n c), (1, .slice a' n' c')] = some (23, #[.slice a n c, .slice a' n' c']) := by kernel_rfl
/-- slices just laid in a row -/
theorem eS_new {α : Type} {E : ER α} {hsz : 0 < E.sz} {S : Nat → Prop} {w w' : World} {b : Nat} {t : TypeId} {cs : Array Value} {n : Nat} (vs : List Value) (ls : List (List α)) (hn : New w w' b t cs) (up : Up S w) (hcs : cs = vs.toArray) (hl : ls.length = n) (hm : n ≤ 1000) (h : Els (RL E hsz) S w vs ls) :
    (RL (RL E hsz) (show 0 < 1 by decide)).R S w' (.slice (some ⟨b, 0, none⟩) n n) ls := by
  subst hl
  refine RL.ofBlk (es := vs) hn.2.1 (up b (by have := hn.2.2.1; omega)) (h.ext hn.1) (fun j u hu => ?_) (Nat.le_refl _) (by omega)
  rw [hcs]
  have hv : ∀ v ∈ vs, v.cells = #[v] := by
    intro v hv
    obtain ⟨i, hi⟩ := List.mem_iff_getElem?.1 hv
    have hlt := mem_lt hi
    obtain ⟨a, c, rfl, _⟩ := RL.len (h.2 i v _ hi (List.getElem?_eq_getElem (by rw [← h.1]; exact hlt)))
    rfl
  have : cellsOf vs = vs := by
    clear h hcs hu
    induction vs with
    | nil => rfl
    | cons v vs ih => rw [cellsOf, List.flatMap_cons, hv v (by simp), ← cellsOf, ih fun u hu => hv u (by simp [hu])]; rfl
  rw [this] at hu
  simpa using hu

end Go.Proofs.YtgghedhmjhaieaaGreat
