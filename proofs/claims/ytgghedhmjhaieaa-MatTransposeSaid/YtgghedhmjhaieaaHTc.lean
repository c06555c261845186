/-
  law 04: MatTranspose
-/
import Derived.Test.YtgghedhmjhaieaaHTb
namespace Go.Proofs.Ytgghedhmjhaieaa
open Go Go.Kx Go.RowKit

theorem tr_vec (a : List (List QV)) (y : List QV) : eqV (tab (trM a).length fun i => sumN y.length fun k => rm (trM a) i k * rv y k) (tab (colsOf a) (vmul y a)) := by
  intro i
  rw [rv_tab, rv_tab, show (trM a).length = colsOf a from tabM_length _ _ _]
  split
  · unfold vmul
    have h1 : sumN a.length (fun j => rv y j * rm a j i) = sumN (max a.length y.length) fun j => rv y j * rm a j i := (sumN_ext (by omega) fun j h _ => by rw [rm_out h, Rat.mul_zero]).symm
    have h2 : sumN y.length (fun k => rm (trM a) i k * rv y k) = sumN (max a.length y.length) fun k => rm (trM a) i k * rv y k := (sumN_ext (by omega) fun j h _ => by rw [rv_out h, Rat.mul_zero]).symm
    rw [h1, h2]
    exact sumN_congr fun j _ => by rw [rm_trM, Rat.mul_comm]
  · rfl
theorem dot_sym (a : List (List QV)) (x y : List QV) : (sumN (tab a.length fun i => sumN x.length fun k => rm a i k * rv x k).length fun i => rv y i * rv (tab a.length fun i => sumN x.length fun k => rm a i k * rv x k) i) = sumN x.length fun k => rv (tab (colsOf a) (vmul y a)) k * rv x k := by
  rw [tab_length]
  have h1 : ∀ i, i < a.length → rv y i * rv (tab a.length fun i => sumN x.length fun k => rm a i k * rv x k) i = sumN x.length fun k => rv y i * (rm a i k * rv x k) := by
    intro i hi
    rw [rv_tab, if_pos hi, sumN_mul]
  rw [sumN_congr h1, sumN_swap]
  refine sumN_congr fun k _ => ?_
  have h2 : rv (tab (colsOf a) (vmul y a)) k = vmul y a k := by
    rw [rv_tab]
    split
    · rfl
    · symm; exact sumN_zero' fun i _ => by rw [rm_outc (by omega), Rat.mul_zero]
  rw [h2]
  unfold vmul
  rw [← sumN_mulr]
  exact sumN_congr fun i _ => by rw [Rat.mul_assoc]

theorem E_law04_MatTranspose : Ent Try.prog 5 := ent_of Try.func5 (by kernel_rfl) rfl
theorem law04_MatTranspose_c {w : World} {va vb vx vy : Value} {a b : List (List QV)} {x y : List QV} (ha : eM.R (fun _ => True) w va a) (hb : eM.R (fun _ => True) w vb b) (hx : eV.R (fun _ => True) w vx x) (hy : eV.R (fun _ => True) w vy y) : CR Try.prog 5 #[va, vb, vx, vy] w (Is (.bool true)) := by
  obtain ⟨aa, ca, hva, _⟩ := RL.len ha
  obtain ⟨ab, cb, hvb, _⟩ := RL.len hb
  obtain ⟨ax, cx, hvx, _⟩ := RL.len hx
  obtain ⟨ay, cy, hvy, _⟩ := RL.len hy
  have hels : Els eM (fun _ => True) w [va, vb] [a, b] := Els.snoc (Els.snoc Els.nil ha) hb
  refine enter Try.func5 rfl Try.ntmps5 rfl ?_
  refine .seq (.region (.asg rfl rfl (.nil (.seq (.seq (.region (.mv rfl rfl (.mv rfl rfl ?_))))))))
  refine .bsl _ rfl rfl (by rw [hva, hvb]; exact bsl_MM2) fun w1 b1 n1 => ?_
  have hmm : eMM.R (fun _ => True) w1 (.slice (some ⟨b1, 0, none⟩) 2 2) [a, b] := eS_new [va, vb] [a, b] n1 upT (by rw [hva, hvb]) rfl (by decide) hels
  refine .call _ rfl E_law04_Long rfl (law04_Long_c upT hmm) fun v2 w2 e2 h2 => ?_
  obtain ⟨bb, rfl, hlong⟩ := h2
  have x2 := n1.1.trans e2
  have alive : ∀ {σ : Env} {W : World}, Ext w W → WC Try.prog none 64 (thn (fun σ ds w' => False) (fin Try.prog Try.f5 64 fun v w' => Ext w w' ∧ Is (.bool true) v w')) .skip σ [] W → True := fun _ _ => trivial
  cases bb with
  | true =>
    refine .mv rfl rfl (.gs rfl rfl rfl rfl rfl (.gs rfl rfl rfl rfl rfl (.gs rfl rfl rfl rfl rfl (.gs rfl rfl rfl rfl rfl (.pick rfl rfl rfl (.nil (.condT rfl (.seq (.region ?_)))))))))
    refine .call _ rfl E_law04_alive rfl law04_alive_c fun v3 w3 e3 h3 => .asg rfl rfl (.nil (.ret ?_))
    exact .plain [_] Try.results5 ⟨rfl, trivial⟩ ⟨x2.trans e3, h3⟩
  | false =>
  refine .mv rfl rfl (.gr rfl rfl rfl rfl (.mv rfl rfl (.gr rfl rfl rfl rfl (.mv rfl rfl (.gr rfl rfl rfl rfl ?_)))))
  refine .bsl _ rfl rfl (by rw [hvx, hvy]; exact bsl_M2) fun w3 b3 n3 => ?_
  have hels2 : Els eV (fun _ => True) w2 [vx, vy] [x, y] := Els.snoc (Els.snoc Els.nil (hx.ext x2)) (hy.ext x2)
  have hvv : eM.R (fun _ => True) w3 (.slice (some ⟨b3, 0, none⟩) 2 2) [x, y] := eS_new [vx, vy] [x, y] n3 upT (by rw [hvx, hvy]) rfl (by decide) hels2
  refine .gr rfl rfl rfl rfl (.call _ rfl E_law03_Long rfl (law03_Long_c upT hvv) fun v4 w4 e4 h4 => ?_)
  obtain ⟨bb, rfl, hlong2⟩ := h4
  have x4 := (x2.trans n3.1).trans e4
  cases bb with
  | true =>
    refine .pick rfl rfl rfl (.nil (.condT rfl (.seq (.region ?_))))
    refine .call _ rfl E_law04_alive rfl law04_alive_c fun v3 w3 e3 h3 => .asg rfl rfl (.nil (.ret ?_))
    exact .plain [_] Try.results5 ⟨rfl, trivial⟩ ⟨x4.trans e3, h3⟩
  | false =>
  have hl := hlong rfl
  have hl2 := hlong2 rfl
  have ma := (hl a (by simp)).mr (ha.ext x4)
  have mb := (hl b (by simp)).mr (hb.ext x4)
  have mx := (hl2 x (by simp)).vr (hx.ext x4)
  have my := (hl2 y (by simp)).vr (hy.ext x4)
  clear hlong hlong2 hl hl2 hmm hels hvv hels2 alive
  refine .pick rfl rfl rfl (.nil (.condF rfl (.skip ?_)))
  refine .seq (.region (.mv rfl rfl ?_))
  refine .call _ rfl E_mat_Transpose rfl (trW ma) fun v5 w5 e5 m5 => .asg rfl rfl (.nil ?_)
  refine .seq (.seq (.region (.mv rfl rfl ?_)))
  refine .call _ rfl E_mat_Transpose rfl (trW m5) fun v6 w6 e6 m6 => .mv rfl rfl ?_
  have y6 := e5.trans e6
  refine .call _ rfl E_mat_Equal rfl (eqW m6 (ma.ext y6) (he := tr_trM a)) fun v7 w7 e7 h7 => ?_
  subst h7
  have y7 := y6.trans e7
  have z7 := e6.trans e7
  refine .not_ rfl rfl (.mv rfl rfl (.gr rfl rfl rfl rfl (.mv rfl rfl (.gr rfl rfl rfl rfl (.mv rfl rfl (.gr rfl rfl rfl rfl ?_))))))
  refine .call _ rfl E_mat_Mul rfl (mulW 105 (ma.ext y7) (mb.ext y7)) fun v8 w8 e8 m8 => .gr rfl rfl rfl rfl ?_
  refine .call _ rfl E_mat_Transpose rfl (trW m8) fun v9 w9 e9 m9 => .gr rfl rfl rfl rfl (.mv rfl rfl (.gr rfl rfl rfl rfl ?_))
  have y9 := (y7.trans e8).trans e9
  refine .call _ rfl E_mat_Transpose rfl (trW (mb.ext y9)) fun v10 w10 e10 m10 => .gr rfl rfl rfl rfl (.mv rfl rfl (.gr rfl rfl rfl rfl ?_))
  have z10 := ((z7.trans e8).trans e9).trans e10
  refine .call _ rfl E_mat_Mul rfl (mulW 105 m10 (m5.ext z10)) fun v11 w11 e11 m11 => .gr rfl rfl rfl rfl ?_
  refine .call _ rfl E_mat_Equal rfl (eqW ((m9.ext e10).ext e11) m11 (he := tr_mulM a b)) fun v12 w12 e12 h12 => ?_
  subst h12
  have y12 := ((y9.trans e10).trans e11).trans e12
  have z12 := (z10.trans e11).trans e12
  refine .gr rfl rfl rfl rfl (.not_ rfl rfl (.pick rfl rfl rfl (.mv rfl rfl (.gr rfl rfl rfl rfl (.mv rfl rfl (.gr rfl rfl rfl rfl (.mv rfl rfl (.gr rfl rfl rfl rfl ?_))))))))
  refine .call _ rfl E_mat_MulVec rfl (mulvecW 300 (m5.ext z12) (my.ext y12)) fun v13 w13 e13 m13 => .gr rfl rfl rfl rfl (.mv rfl rfl (.gr rfl rfl rfl rfl (.mv rfl rfl (.gr rfl rfl rfl rfl ?_))))
  have y13 := y12.trans e13
  refine .call _ rfl E_mat_VecMul rfl (vecmulW 300 (my.ext y13) (ma.ext y13)) fun v14 w14 e14 m14 => .gr rfl rfl rfl rfl ?_
  refine .call _ rfl E_vec_Equal rfl (eqvW (m13.ext e14) m14 (he := tr_vec a y)) fun v15 w15 e15 h15 => ?_
  subst h15
  have y15 := (y13.trans e14).trans e15
  refine .gr rfl rfl rfl rfl (.not_ rfl rfl (.pick rfl rfl rfl (.nil (.condF rfl (.skip ?_)))))
  refine .seq (.region (.mv rfl rfl (.mv rfl rfl (.mv rfl rfl ?_))))
  refine .call _ rfl E_mat_MulVec rfl (mulvecW 300 (ma.ext y15) (mx.ext y15)) fun v16 w16 e16 m16 => ?_
  have y16 := y15.trans e16
  refine .call _ rfl E_vec_Dot rfl (dotW ((my.ext y16).lift (L' := 300) (by decide)) m16) fun v17 w17 e17 h17 => .mv rfl rfl (.mv rfl rfl ?_)
  have y17 := y16.trans e17
  refine .call _ rfl E_mat_VecMul rfl (vecmulW 300 (my.ext y17) (ma.ext y17)) fun v18 w18 e18 m18 => .mv rfl rfl ?_
  have y18 := y17.trans e18
  refine .call _ rfl E_vec_Dot rfl (dotW m18 ((mx.ext y18).lift (L' := 300) (by decide))) fun v19 w19 e19 h19 => ?_
  have hsz : Rsz (sumN x.length fun k => rv (tab (colsOf a) (vmul y a)) k * rv x k) (1 + x.length * (300 + 300 + 1)) := sumN_rsz fun k _ => (m18.hk.rsz (by decide) k).mul ((mx.hk.mono (M := 300) (by decide)).rsz (by decide) k)
  have hx20 := mx.hn
  have hxm : x.length * (300 + 300 + 1) ≤ 20 * 601 := Nat.mul_le_mul hx20 (by decide)
  have hds := dot_sym a x y
  rw [hds] at h17
  refine .call _ rfl E_frac_Equal rfl (frac_Equal_c (L := 20000) upT ((h17.ext e18).ext e19) h19 ((hsz.mono (by omega)).toOk) ((hsz.mono (by omega)).toOk) (by decide) (by decide)) fun v20 w20 e20 h20 => ?_
  subst h20
  rw [decide_eq_true (rfl : qval (qc (sumN x.length fun k => rv (tab (colsOf a) (vmul y a)) k * rv x k)) = _)]
  refine .mv rfl rfl (.gr rfl rfl rfl rfl ?_)
  refine .call _ rfl E_law04_alive rfl law04_alive_c fun v21 w21 e21 h21 => ?_
  subst h21
  refine .pick rfl rfl rfl (.asg rfl rfl (.nil (.ret ?_)))
  exact .plain [_] Try.results5 ⟨rfl, trivial⟩ ⟨x4.trans (((y18.trans e19).trans e20).trans e21), rfl⟩
end Go.Proofs.Ytgghedhmjhaieaa
