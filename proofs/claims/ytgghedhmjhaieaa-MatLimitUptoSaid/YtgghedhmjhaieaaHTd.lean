/-
  mat.FromInts; law 04: MatLimit
-/
import Derived.Test.YtgghedhmjhaieaaHTb
namespace Go.Proofs.Ytgghedhmjhaieaa
open Go Go.Kx Go.RowKit

theorem E_mat_FromInts : Ent Try.prog 11 := ent_of Try.func11 (by kernel_rfl) rfl
theorem mat_FromInts_c {S : Nat → Prop} {w : World} {vl : Value} {l : List (List Int)} (up : Up S w) (hl : eII.R S w vl l) (hn : l.length ≤ 1000000000) (hll : ∀ r ∈ l, r.length ≤ 1000000000) :
    CR Try.prog 11 #[vl] w (eM.at S (intsM l)) := by
  have hl0 := ER.lt eII hl
  have hL : ∀ {W : World}, Below w.heap.size w W → eII.R (fun k => S k ∧ k < w.heap.size) W vl l := fun hB => eII.keep (fun k c t f hk h => (hB.block k hk.2).trans h) hl0
  refine enter Try.func11 rfl Try.ntmps11 rfl ?_
  refine .seq (.region (.asg rfl rfl (.nil (.seq (.region (.mv rfl rfl (.lenR un_LL rfl rfl hl ?_)))))))
  refine .make_ _ _ un_M info_V rfl (by decide) rfl rfl rfl (Nat.le_refl _) (by omega) (by omega) fun w1 g n1 => .asg rfl rfl (.nil ?_)
  have f1 : FB eV 30 S w1 g (List.replicate l.length []) := FB.made n1 RL.nil
  obtain ⟨e1, k1, hg, hs1⟩ := n1
  generalize hf : (fun i => intsV (l.getD i [])) = f
  refine .mid (α := Unit) (fun _ => [(3, .slice (some ⟨g, 0, none⟩) l.length l.length)]) (fun _ W => Below w.heap.size w W ∧ FB eV 30 S W g ((List.range l.length).map f)) ?_ ?_
  · refine .seq (.region (.mv rfl rfl (.lenR un_LL rfl rfl (hL e1) (.mv rfl rfl (.nil ?_)))))
    refine .block (.loop (α := Nat) (fun i => [(3, .slice (some ⟨g, 0, none⟩) l.length l.length), (9, vl), (10, .int .i64 (l.length : Nat)), (11, .int .i64 (i : Nat))])
      (fun i W => Below w.heap.size w W ∧ i ≤ l.length ∧ FB eV 30 S W g (fil l.length i f [])) (fun i => l.length - i) 0 ?_ ?_ ?_)
    · exact look_cons rfl (look_cons rfl (look_cons rfl (look_cons rfl look_nil)))
    · exact ⟨e1, Nat.zero_le _, by rw [fil_zero]; exact f1⟩
    · rintro i W ⟨hB, hi, hF⟩
      have hsz := hB.size
      have hgl := hF.lt
      by_cases hlt : i < l.length
      · refine .seq (.region (.lssT rfl rfl rfl (by omega) (.nil (.seq (.condT rfl (.skip (.seq (.block (.seq (.region (.mv rfl rfl ?_)))))))))))
        refine .ixN (i := i) un_LL ty_L rfl rfl (hL hB) rfl (getD_get' (z := []) hlt) fun p hp => .ldE ty_L rfl rfl hp fun e he => ?_
        refine .asg rfl rfl (.asg rfl rfl (.nil (.region (.mv rfl rfl (.mv rfl rfl (.mv rfl rfl ?_))))))
        have hT : ∀ k, S k ∧ k < w.heap.size → S k ∧ k ≠ g := fun k hk => ⟨hk.1, by have := hk.2; omega⟩
        refine .call _ rfl E_vec_FromInts rfl (vec_FromInts_c (S := fun k => S k ∧ k ≠ g) (fun k hk => ⟨up k (by omega), by omega⟩) (eI.mono (fun k _ hk => hT k hk) he) (mem_getD (P := fun r : List Int => r.length ≤ 1000000000) hll (by simp) i)) fun v2 W2 e2 h2 => ?_
        refine .ixB (i := i) un_M ty_V rfl rfl rfl hlt ?_
        refine .storeF (E := eV) (i := i) (z := f i) (by decide) ty_V rfl rfl (hF.ext e2) rfl (by rw [fil_length]; exact hlt) (Nat.zero_add _) (by rw [← hf]; exact h2) fun W3 hF3 u3 => .nil ?_
        rw [fil_set] at hF3
        refine .region (.add rfl rfl rfl (.mv rfl rfl (.nil ?_)))
        rw [wI (by omega)]
        exact ⟨rfl, i + 1, look_cons rfl (look_cons rfl (look_cons rfl (look_cons rfl look_nil))), ⟨u3.below (hB.trans (e2.mono hsz)) (by omega), hlt, hF3⟩, by show l.length - (i + 1) < l.length - i; omega⟩
      · refine .seq (.region (.lssF rfl rfl rfl (by omega) (.nil (.seq (.condF rfl (.exit ?_))))))
        have : i = l.length := by omega
        subst this
        rw [fil_all] at hF
        exact ⟨rfl, (), look_cons rfl look_nil, hB, hF⟩
  · rintro _ W ⟨hB, hF⟩
    refine .seq (.region (.mv rfl rfl (.asg rfl rfl (.nil (.ret ?_)))))
    have hR := hF.toR (c := l.length) (hsz := by decide) (up g (by omega)) (by simp) (by simp; omega)
    have hlen : ((List.range l.length).map f).length = l.length := by simp
    rw [hlen] at hR
    refine .plain [_] Try.results11 ⟨rfl, trivial⟩ ⟨hB, ?_⟩
    unfold intsM
    rw [hf]; exact hR

theorem eI_bd {S : Nat → Prop} {w : World} {v : Value} {r : List Int} (h : eI.R S w v r) : ∀ n ∈ r, -9223372036854775808 ≤ n ∧ n ≤ 9223372036854775807 := by
  intro n hn
  obtain ⟨i, hi⟩ := List.mem_iff_getElem?.1 hn
  obtain ⟨es, he, _⟩ := h
  have hlt := mem_lt hi
  exact (eInt_bd (he.2 i _ n (List.getElem?_eq_getElem (by rw [he.1]; exact hlt)) hi)).2
theorem eII_bd {S : Nat → Prop} {w : World} {v : Value} {l : List (List Int)} (h : eII.R S w v l) : ∀ r ∈ l, ∀ n ∈ r, -9223372036854775808 ≤ n ∧ n ≤ 9223372036854775807 := by
  intro r hr
  obtain ⟨i, hi⟩ := List.mem_iff_getElem?.1 hr
  obtain ⟨es, he, _⟩ := h
  have hlt := mem_lt hi
  exact eI_bd (he.2 i _ r (List.getElem?_eq_getElem (by rw [he.1]; exact hlt)) hi)

theorem E_law04_MatLimit : Ent Try.prog 4 := ent_of Try.func4 (by kernel_rfl) rfl
theorem law04_MatLimit_c {w : World} {vl : Value} {l : List (List Int)} {n : Int} (hl : eII.R (fun _ => True) w vl l) (hll : ∀ r ∈ l, r.length ≤ 1000000000) : CR Try.prog 4 #[vl, .int .i64 n] w (Is (.bool true)) := by
  have hk := mk_intsM (eII_bd hl)
  refine enter Try.func4 rfl Try.ntmps4 rfl ?_
  refine .seq (.region (.asg rfl rfl (.nil (.seq (.seq (.region (.mv rfl rfl (.lenR un_LL rfl rfl hl ?_))))))))
  by_cases h1 : l.length ≤ 10
  · refine .gtrF rfl rfl rfl (by omega) (.mv rfl rfl (.gr rfl rfl rfl rfl (.mv rfl rfl (.gr rfl rfl rfl rfl ?_))))
    by_cases h2 : n < 1020
    · refine .lssT rfl rfl rfl h2 (.pick rfl rfl rfl (.mv rfl rfl (.gs rfl rfl rfl rfl rfl (.gs rfl rfl rfl rfl rfl (.gs rfl rfl rfl rfl rfl (.gs rfl rfl rfl rfl rfl (.pick rfl rfl rfl (.nil (.condT rfl (.seq (.region ?_)))))))))))
      refine .call _ rfl E_law04_alive rfl law04_alive_c fun v3 w3 e3 h3 => .asg rfl rfl (.nil (.ret ?_))
      exact .plain [_] Try.results4 ⟨rfl, trivial⟩ ⟨e3, h3⟩
    refine .lssF rfl rfl rfl h2 (.pick rfl rfl rfl (.mv rfl rfl (.gr rfl rfl rfl rfl (.mv rfl rfl (.gr rfl rfl rfl rfl ?_)))))
    refine .call _ rfl E_ref04_Ints rfl (ref04_Ints_c upT hl (by omega) hll) fun v1 w1 e1 m1 => .gr rfl rfl rfl rfl ?_
    refine .call _ rfl E_ref04_Cols rfl (ref04_Cols_c m1) fun v2 w2 e2 c2 => .gr rfl rfl rfl rfl ?_
    subst c2
    have x2 := e1.trans e2
    by_cases h3 : colsOf (intsM l) ≤ 10
    · refine .gtrF rfl rfl rfl (by omega) (.pick rfl rfl rfl (.nil (.condF rfl (.skip (.seq (.region (.mv rfl rfl ?_)))))))
      refine .call _ rfl E_mat_FromInts rfl (mat_FromInts_c upT (hl.ext x2) (by omega) hll) fun v3 w3 e3 m3 => .asg rfl rfl (.nil (.seq (.region (.mv rfl rfl (.mv rfl rfl ?_)))))
      refine .call _ rfl E_mat_Resize rfl (mat_Resize_c (r := n) (c := 1) upT m3 hk (by decide) (by decide)) fun v4 w4 e4 m4 => .mv rfl rfl (.mv rfl rfl ?_)
      refine .call _ rfl E_mat_Resize rfl (mat_Resize_c (r := 1) (c := n) upT (ER.ext eM m3 e4) hk (by decide) (by decide)) fun v5 w5 e5 m5 => .asg rfl rfl (.asg rfl rfl (.nil ?_))
      have x5 := ((x2.trans e3).trans e4).trans e5
      have m4 := ER.ext eM m4 e5
      refine .seq (.region (.mv rfl rfl (.mv rfl rfl ?_)))
      refine .call _ rfl E_ref04_Ints rfl (ref04_Ints_c upT (hl.ext x5) (by omega) hll) fun v6 w6 e6 m6 => ?_
      refine .call _ rfl E_ref04_Is rfl (ref04_Is_c (ER.ext eM (ER.ext eM (ER.ext eM m3 e4) e5) e6) m6) fun v7 w7 e7 h7 => ?_
      subst h7
      rw [same_self]
      have y7 := e6.trans e7
      have m4 := ER.ext eM m4 y7
      have m5 := ER.ext eM m5 y7
      have hcut : ((cutN n : Nat) : Int) = min n 1024 := by rw [← cutN_eq]; omega
      have hone : cutN 1 = 1 := by unfold cutN; omega
      rw [hone] at m4 m5
      refine .mv rfl rfl (.gr rfl rfl rfl rfl (.mv rfl rfl (.gr rfl rfl rfl rfl (.lenR un_M rfl rfl m4 ?_))))
      rw [tabM_length, hcut]
      refine .gr rfl rfl rfl rfl (.mv rfl rfl (.gr rfl rfl rfl rfl (.min_ rfl rfl rfl (.gr rfl rfl rfl rfl (.eqlT rfl rfl rfl rfl (.pick rfl rfl rfl (.mv rfl rfl ?_)))))))
      refine .gr rfl rfl rfl rfl (.mv rfl rfl (.gr rfl rfl rfl rfl (.lenR un_M rfl rfl m5 ?_)))
      rw [tabM_length]
      refine .gr rfl rfl rfl rfl (.eqlT rfl rfl rfl rfl (.pick rfl rfl rfl (.mv rfl rfl (.gr rfl rfl rfl rfl (.mv rfl rfl (.gr rfl rfl rfl rfl ?_))))))
      refine .ixN (i := 0) un_M ty_V rfl rfl m5 rfl (y := tab (cutN n) (rm (intsM l) 0)) rfl fun p hp => .gr rfl rfl rfl rfl (.ldE ty_V rfl rfl hp fun e he => .gr rfl rfl rfl rfl (.lenR un_V rfl rfl he ?_))
      rw [tab_length, hcut]
      refine .gr rfl rfl rfl rfl (.mv rfl rfl (.gr rfl rfl rfl rfl (.min_ rfl rfl rfl (.gr rfl rfl rfl rfl (.eqlT rfl rfl rfl rfl (.pick rfl rfl rfl (.mv rfl rfl (.gr rfl rfl rfl rfl ?_))))))))
      refine .call _ rfl E_law04_alive rfl law04_alive_c fun v8 w8 e8 h8 => ?_
      subst h8
      refine .pick rfl rfl rfl (.asg rfl rfl (.nil (.ret ?_)))
      exact .plain [_] Try.results4 ⟨rfl, trivial⟩ ⟨(x5.trans y7).trans e8, rfl⟩
    · refine .gtrT rfl rfl rfl (by omega) (.pick rfl rfl rfl (.nil (.condT rfl (.seq (.region ?_)))))
      refine .call _ rfl E_law04_alive rfl law04_alive_c fun v3 w3 e3 h3 => .asg rfl rfl (.nil (.ret ?_))
      exact .plain [_] Try.results4 ⟨rfl, trivial⟩ ⟨x2.trans e3, h3⟩
  · refine .gtrT rfl rfl rfl (by omega) (.mv rfl rfl (.gs rfl rfl rfl rfl rfl (.gs rfl rfl rfl rfl rfl (.pick rfl rfl rfl (.mv rfl rfl (.gs rfl rfl rfl rfl rfl (.gs rfl rfl rfl rfl rfl (.gs rfl rfl rfl rfl rfl (.gs rfl rfl rfl rfl rfl (.pick rfl rfl rfl (.nil (.condT rfl (.seq (.region ?_))))))))))))))
    refine .call _ rfl E_law04_alive rfl law04_alive_c fun v3 w3 e3 h3 => .asg rfl rfl (.nil (.ret ?_))
    exact .plain [_] Try.results4 ⟨rfl, trivial⟩ ⟨e3, h3⟩
end Go.Proofs.Ytgghedhmjhaieaa
