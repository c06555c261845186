/-
  Regions that draw their order, with cells of their own that are known apart (printed by mkkv.py) The references: rational numbers: one, den, num, over, Least, Add, Mul, Neg, Sub, Sign, Cmp The references: rational numbers: Least, Add, Mul, Neg, Sub, Sign, Cmp The references: ref02 Sub, Cmp; vectors: At, Combine, Add, Scale, Dot The references: vectors: Combine, Add, Scale, Dot
-/
import Derived.Test.YtgghedhmjhaieaaGreatG7
import Derived.Test.YtgghedhmjhaieaaGreatGA
set_option linter.unusedVariables false
namespace Go.Kx
open Go Go.RowKit
def isAl (o : Oper) : Bool := match o.op with | .alloc _ => true | _ => false
/-- the new cells of a region -/
def AlOk (P : Program) (w0 : World) : List Oper → List Sp → Prop
  | o :: os, s :: ss => (isAl o = true → ∃ t z B, o.op = .alloc t ∧ o.guard = none ∧ zeroOf P t = some z ∧ s = .inr (NewP B t z.cells) ∧ B ≤ w0.heap.size) ∧ AlOk P w0 os ss
  | _, _ => True
theorem AlOk.at_ {P : Program} {w0 : World} : ∀ {os : List Oper} {ss : List Sp}, AlOk P w0 os ss → ∀ (i : Nat) (o : Oper) (s : Sp), os[i]? = some o → ss[i]? = some s → isAl o = true → ∃ t z B, o.op = .alloc t ∧ o.guard = none ∧ zeroOf P t = some z ∧ s = .inr (NewP B t z.cells) ∧ B ≤ w0.heap.size
  | [], ss, _, i, o, s, h1, _, _ => by simp at h1
  | o' :: os, [], _, i, o, s, _, h2, _ => by simp at h2
  | o' :: os, s' :: ss, h, 0, o, s, h1, h2, h3 => by simp at h1 h2; subst h1; subst h2; exact h.1 h3
  | o' :: os, s' :: ss, h, i + 1, o, s, h1, h2, h3 => AlOk.at_ h.2 i o s (by simpa using h1) (by simpa using h2) h3
/-- the slots of the new cells hold different values -/
def Apart (ops : List Oper) (σ : Env) : Prop := ∀ t t' v v', t ≠ t' → (∃ o ∈ ops, isAl o = true ∧ o.dst = some t) → (∃ o ∈ ops, isAl o = true ∧ o.dst = some t') → look σ t = some v → look σ t' = some v' → v ≠ v'
/-- what holds while the head runs -/
structure InvF (N : Nat) (ds : List Deferred) (ops : List Oper) (w0 : World) (h : Nat) (sp : List Sp) (a0 : Act) (listed : Array Bool) (a : Act) (w : World) : Prop where
  size : a.tmps.size = N
  defs : a.defers = ds
  ext : Ext w0 w
  vals : ∀ (i : Nat) (o : Oper) (s : Sp) (t : Tmp), i < h → ops[i]? = some o → sp[i]? = some s → isL listed i → o.dst = some t → Sp.ok s (a.tmps.getD t undef) w
  old : ∀ t, (∀ (i : Nat) (o : Oper), i < h → ops[i]? = some o → isL listed i → o.dst ≠ some t) → a.tmps.getD t undef = a0.tmps.getD t undef
  shut : ∀ (i : Nat) (o : Oper), ops[i]? = some o → isL listed i → ∀ j, edgeTo o j = true → isL listed j
  head : ∀ i, h ≤ i → ¬ isL listed i
  dis : ∀ (i j : Nat) (oi oj : Oper) (t t' : Tmp), i < h → j < h → i ≠ j → ops[i]? = some oi → ops[j]? = some oj → isL listed i → isL listed j → isAl oi = true → isAl oj = true → oi.dst = some t → oj.dst = some t' → a.tmps.getD t undef ≠ a.tmps.getD t' undef
  low : ∀ (i : Nat) (o : Oper) (t : Tmp), i < h → ops[i]? = some o → isL listed i → isAl o = true → o.dst = some t → ∃ b, a.tmps.getD t undef = .pointer (some ⟨b, 0, none⟩) ∧ b < w.heap.size
section
variable {P : Program} {ro : Option Nat} {N : Nat} {ds : List Deferred} {ops : List Oper} {K : Env → World → Prop} {σ0 : Env} {w0 : World} {h : Nat} {sp : List Sp} {deps : List (List (Tmp × Nat))} {a0 : Act}
section
variable {Q : Exit → Act → World → Prop}
set_option maxHeartbeats 1600000 in
theorem parF_any (hchk : okPar ops N h deps = true) (ha0 : Agr N σ0 ds a0) (hob : Obs P w0 σ0 (ops.take h) sp (ops.take h) sp deps) (hal : AlOk P w0 (ops.take h) sp)
    (hfin : ∀ w, Ext w0 w → finQ (fun σ w => Apart (ops.take h) σ → ∀ a, Agr N σ ds a → wpListIn (wf ro) 0 P ops.toArray Q (ops.drop h) a w) w (ops.take h) sp σ0) :
    ∀ (fuel : Nat) (listed : Array Bool) (a : Act) (w : World), listed.size = ops.length → cnt listed ops.length ≤ fuel →
      (InvF N ds ops w0 h sp a0 listed a w ∨ ∃ p, h ≤ p ∧ p ≤ ops.length ∧ (∀ j, j < p → isL listed j) ∧ (∀ j, p ≤ j → ¬ isL listed j) ∧ wpListIn (wf ro) 0 P ops.toArray Q (ops.drop p) a w) →
      wpAnyIn (wf ro) 0 P .any ops.toArray Q fuel listed a w := by
  simp only [okPar, Bool.and_eq_true, List.all_eq_true, Nat.ble_eq] at hchk
  obtain ⟨⟨⟨hback, hnd⟩, hall⟩, hle⟩ := hchk
  have hback' : ∀ (i : Nat) (o : Oper), ops[i]? = some o → ∀ j, edgeTo o j = true → j < i := by
    intro i o hi j hj
    have := hback (o, i) (by rw [List.mem_zipIdx_iff_getElem?]; exact hi)
    obtain ⟨e, he, hb, rfl⟩ := edgeTo_spec.1 hj
    simp only [okBack, Array.all_eq_true', Bool.or_eq_true, Bool.not_eq_true', Nat.blt_eq] at this
    rcases this e he with h | h
    · rw [hb] at h; cases h
    · exact h
  have hop : ∀ (i : Nat) (o : Oper), i < h → ops[i]? = some o → okOp (ops.take h) N i o (deps.getD i []) = true := by
    intro i o hi ho
    have := hall (o, i) (by rw [List.mem_zipIdx_iff_getElem?]; exact ho)
    simpa [Nat.blt_eq, hi] using this
  have htail : ∀ (listed : Array Bool), (∀ (i : Nat) (o : Oper), ops[i]? = some o → isL listed i → ∀ j, edgeTo o j = true → isL listed j) → ∀ (i : Nat) (o : Oper), h ≤ i → ops[i]? = some o → (∀ j, edgeTo o j = true → isL listed j) → ∀ j, j < i → isL listed j := by
    intro listed shut i o hi ho hed j hj
    have := hall (o, i) (by rw [List.mem_zipIdx_iff_getElem?]; exact ho)
    have hn : Nat.blt i h = false := by
      cases hh : Nat.blt i h with
      | false => rfl
      | true => rw [Nat.blt_eq] at hh; omega
    simp only [hn, Bool.false_eq_true, if_false, okTail, List.all_eq_true, List.mem_range] at this
    obtain ⟨x, hx, hxe⟩ := List.any_eq_true.1 (this j hj)
    have hxj : j = x := Nat.eq_of_beq_eq_true hxe
    subst hxj
    refine closeB_listed shut _ _ (fun k hk => ?_) j hx
    simp only [edgesOf, List.mem_filterMap] at hk
    obtain ⟨e, he, hb⟩ := hk
    have hbb : Region.binds .any e = true := by
      cases h' : Region.binds .any e with
      | true => rfl
      | false => rw [h'] at hb; simp at hb
    rw [hbb] at hb
    simp at hb
    exact hed k (edgeTo_spec.2 ⟨e, by simpa using he, hbb, hb⟩)
  have htake : ∀ i, i < h → (ops.take h)[i]? = ops[i]? := fun i hi => by rw [List.getElem?_take, if_pos hi]
  have hlen := Obs.len hob
  have hlt : (ops.take h).length = h := by simp; omega
  -- all of the head has run
  have toB : ∀ listed a w, InvF N ds ops w0 h sp a0 listed a w → (∀ i, i < h → isL listed i) → wpListIn (wf ro) 0 P ops.toArray Q (ops.drop h) a w := by
    intro listed a w hI hl
    have hmem : ∀ o ∈ ops.take h, ∃ i, i < h ∧ ops[i]? = some o := by
      intro o ho
      obtain ⟨i, hi⟩ := List.mem_iff_getElem?.1 ho
      have hi' : i < h := by
        rcases Nat.lt_or_ge i h with hh | hh
        · exact hh
        · rw [List.getElem?_eq_none (by omega)] at hi; cases hi
      exact ⟨i, hi', by rw [← htake i hi']; exact hi⟩
    have hsome : ∀ o ∈ ops.take h, dOk N o.dst = true ∧ o.dst.isSome = true := by
      intro o ho
      obtain ⟨i, hi, ho⟩ := hmem o ho
      have := hop i o hi ho
      simp only [okOp, Bool.and_eq_true] at this
      exact ⟨this.1.1.1.1.1, this.1.1.1.1.2⟩
    obtain ⟨σ', hag, hk⟩ := finQ_use (N := N) (ds := ds) (ops.take h) sp σ0 a hlen (hfin w hI.ext) (fun o ho => (hsome o ho).1)
      (fun i o s t h1 h2 h3 => by
        have hi' : i < h := by
          rcases Nat.lt_or_ge i h with hh | hh
          · exact hh
          · rw [List.getElem?_eq_none (by omega)] at h1; cases h1
        exact hI.vals i o s t hi' (by rw [← htake i hi']; exact h1) h2 (hl i hi') h3)
      (fun t v hv hno => by
        rw [hI.old t (fun i o hi ho _ => hno o (List.mem_iff_getElem?.2 ⟨i, by rw [htake i hi]; exact ho⟩))]
        exact ha0.slot t v hv)
      (nodupB_spec hnd) hI.size hI.defs
      (fun i o s h1 h2 h3 => by
        have := (hsome o (List.mem_iff_getElem?.2 ⟨i, h1⟩)).2
        rw [h3] at this; cases this)
    refine hk (fun t t' v v' htt ⟨o, ho, hoa, hod⟩ ⟨o', ho', hoa', hod'⟩ hv hv' => ?_) a hag
    obtain ⟨i, hi, hio⟩ := hmem o ho
    obtain ⟨j, hj, hjo⟩ := hmem o' ho'
    have hij : i ≠ j := by
      intro e; subst e; rw [hio] at hjo; cases hjo; rw [hod] at hod'; cases hod'; exact htt rfl
    have := hI.dis i j o o' t t' hi hj hij hio hjo (hl i hi) (hl j hj) hoa hoa' hod hod'
    rw [hag.slot t v hv, hag.slot t' v' hv'] at this
    exact this
  -- where nothing is ready all has run
  have allL : ∀ listed : Array Bool, listed.size = ops.length → Region.ready .any ops.toArray listed = [] → ∀ i, i < ops.length → isL listed i := by
    intro listed hsz hr i
    induction i using Nat.strongRecOn with
    | _ i ih =>
      intro hi
      by_cases hh : isL listed i
      · exact hh
      · have : i ∈ Region.ready .any ops.toArray listed := by
          refine mem_ready.2 ⟨by simpa using hi, (getD_of_isL (by omega)).2 hh, fun o ho j hj => ?_⟩
          have := hback' i o (by simpa using ho) j hj
          exact ih j this (by omega)
        rw [hr] at this; cases this
  have done : ∀ listed a w, (∀ i, i < ops.length → isL listed i) → (InvF N ds ops w0 h sp a0 listed a w ∨ ∃ p, h ≤ p ∧ p ≤ ops.length ∧ (∀ j, j < p → isL listed j) ∧ (∀ j, p ≤ j → ¬ isL listed j) ∧ wpListIn (wf ro) 0 P ops.toArray Q (ops.drop p) a w) → Q .normal a w := by
    intro listed a w hl hJ
    rcases hJ with hI | ⟨p, hp, hpn, _, hno, hwp⟩
    · have hn : ops.length ≤ h := Nat.le_of_not_lt fun hh => hI.head h (Nat.le_refl _) (hl h hh)
      have := toB listed a w hI (fun i hi => hl i (by omega))
      rw [List.drop_of_length_le hn] at this
      exact this
    · have hn : ops.length ≤ p := Nat.le_of_not_lt fun hh => hno p (Nat.le_refl _) (hl p hh)
      rw [List.drop_of_length_le hn] at hwp
      exact hwp
  intro fuel
  induction fuel with
  | zero =>
    intro listed a w hsz hc hJ
    have hl : ∀ i, i < ops.length → isL listed i := by
      intro i hi
      have := cnt_zero listed ops.length (by omega) i hi
      by_cases hh : isL listed i
      · exact hh
      · have := (getD_of_isL (by omega : i < listed.size)).2 hh
        simp_all
    refine ⟨?_, done listed a w hl hJ⟩
    refine List.eq_nil_iff_forall_not_mem.2 fun i hi => ?_
    obtain ⟨h1, h2, _⟩ := mem_ready.1 hi
    have h1' : i < ops.length := by simpa using h1
    exact (getD_of_isL (by omega)).1 h2 (hl i h1')
  | succ fuel ih =>
    intro listed a w hsz hc hJ
    refine ⟨fun hr => done listed a w (allL listed hsz hr) hJ, fun i hi => ?_⟩
    obtain ⟨hin, hun, hed⟩ := mem_ready.1 hi
    have hin' : i < ops.length := by simpa using hin
    have hunl : ¬ isL listed i := (getD_of_isL (by omega)).1 hun
    obtain ⟨o, ho⟩ : ∃ o, ops[i]? = some o := ⟨_, List.getElem?_eq_getElem hin'⟩
    have hed' : ∀ j, edgeTo o j = true → isL listed j := hed o (by simpa using ho)
    have hsz' : (listed.setIfInBounds i true).size = ops.length := by simpa using hsz
    have hcnt : cnt (listed.setIfInBounds i true) ops.length ≤ fuel := by
      have := cnt_set_lt listed i hun ops.length hin'
      omega
    -- the tail's next
    have tailStep : h ≤ i → (∀ j, j < i → isL listed j) → (∀ j, i ≤ j → ¬ isL listed j) → wpListIn (wf ro) 0 P ops.toArray Q (ops.drop i) a w →
        wpOpIn (wf ro) 0 P ops.toArray Q i (wpAnyIn (wf ro) 0 P .any ops.toArray Q fuel (listed.setIfInBounds i true)) a w := by
      intro hhi hlow hhigh hwp
      have hd : ops.drop i = o :: ops.drop (i + 1) := by
        rw [List.drop_eq_getElem_cons hin']
        congr 1
        have := List.getElem?_eq_getElem hin'
        rw [ho] at this; exact (Option.some.inj this).symm
      rw [hd] at hwp
      have hw2 : wpOpIn (wf ro) 0 P ops.toArray Q i (wpListIn (wf ro) 0 P ops.toArray Q (ops.drop (i + 1))) a w := by
        unfold wpOpIn
        simp only [List.getElem?_toArray, ho]
        simpa only [wpListIn] using hwp
      refine wpOpIn_mono (fun a' w' hw' => ih _ a' w' hsz' hcnt (.inr ⟨i + 1, by omega, by omega, fun j hj => ?_, fun j hj => ?_, hw'⟩)) hw2
      · rw [isL_set (by omega)]
        by_cases e : i = j
        · exact .inl e
        · exact .inr (hlow j (by omega))
      · rw [isL_set (by omega)]
        rintro (e | e)
        · omega
        · exact hhigh j (by omega) e
    rcases hJ with hI | ⟨p, hp, hpn, hlow, hhigh, hwp⟩
    · rcases Nat.lt_or_ge i h with hih | hih
      · -- an operation of the head
        have hok := hop i o hih ho
        simp only [okOp, Bool.and_eq_true, List.all_eq_true] at hok
        obtain ⟨⟨⟨⟨⟨hdk, hds⟩, hgd⟩, hndf⟩, hdep⟩, hrd⟩ := hok
        obtain ⟨s, d, hs, hd, hq⟩ := Obs.at_ hob i o (by rw [htake i hih]; exact ho)
        have hdd : deps.getD i [] = d := by simp [hd]
        rw [hdd] at hdep hrd hgd
        obtain ⟨t0, ht0⟩ := Option.isSome_iff_exists.1 hds
        obtain ⟨σ', hG, hσ'⟩ := depQ_use (val := fun t => a.tmps.getD t undef) d σ0 (hq w hI.ext) (fun p hp => by
          have h1 := hdep p hp
          obtain ⟨h2, h3⟩ := h1
          split at h3
          · rename_i oj hoj
            have hlj := hed' _ h2
            have hjh : p.2 < h := Nat.lt_of_not_le fun hh => hI.head _ hh hlj
            obtain ⟨s', hs'⟩ : ∃ s', sp[p.2]? = some s' := ⟨_, List.getElem?_eq_getElem (by omega)⟩
            exact ⟨s', hs', hI.vals p.2 oj s' p.1 hjh (by rw [← htake _ hjh]; exact hoj) hs' hlj (by simpa using h3)⟩
          · cases h3)
        have hopnd : ∀ x v, x ∈ o.op.operands → ev σ' x = some v → a.eval x = v := by
          intro x v hx hv
          cases x with
          | const u => simpa [Kx.ev, Act.eval] using hv
          | global g => simpa [Kx.ev, Act.eval] using hv
          | func f => simpa [Kx.ev, Act.eval] using hv
          | tmp t =>
            rcases hσ' t v hv with e | ⟨hv0, hnd'⟩
            · exact e.symm
            · have hmem : t ∈ tmpsOf o := by
                unfold tmpsOf
                rw [List.mem_filterMap]
                exact ⟨.tmp t, by simpa using hx, rfl⟩
              have hc := hrd t hmem
              simp only [Bool.or_eq_true] at hc
              rcases hc with hc | hc
              · obtain ⟨p, hp, hpt⟩ := List.any_eq_true.1 hc
                exact absurd (by simpa using hpt) (hnd' p hp)
              · show a.tmps.getD t undef = v
                rw [hI.old t (fun i' o' hi' ho' hl' hdst => ?_), ha0.slot t v hv0]
                have := List.all_eq_true.1 hc (o', i') (by rw [List.mem_zipIdx_iff_getElem?, htake i' hi']; exact ho')
                simp only [Bool.or_eq_true] at this
                rcases this with (h1 | h1) | h1
                · simp [hdst] at h1
                · have : i' = i := by simpa using h1
                  subst this; exact hunl hl'
                · exact hunl (hI.shut i' o' ho' hl' i h1)
        -- what the frame is behind it
        have next : ∀ v w', Ext w w' → Sp.ok s v w' → (isAl o = true → ∃ b, v = .pointer (some ⟨b, 0, none⟩) ∧ w.heap.size ≤ b ∧ b < w'.heap.size) → wpAnyIn (wf ro) 0 P .any ops.toArray Q fuel (listed.setIfInBounds i true) (a.put o.dst v) w' := by
          intro v w' he hv hfr
          have htN : t0 < N := by simpa [ht0, dOk, Nat.blt_eq] using hdk
          have hself : (a.put o.dst v).tmps.getD t0 undef = v := by simp [ht0, Act.put, hI.size, htN]
          have hinj : ∀ (j : Nat) (oj : Oper) (t : Tmp), i ≠ j → j < h → ops[j]? = some oj → oj.dst = some t → (a.put o.dst v).tmps.getD t undef = a.tmps.getD t undef := by
            intro j oj t e hj hoj hdj
            have hne : t0 ≠ t := by
              intro e2
              subst e2
              exact e (dst_inj (nodupB_spec hnd) (by rw [htake i hih]; exact ho) (by rw [htake j hj]; exact hoj) ht0 hdj)
            simp [ht0, Act.put, Array.getElem?_setIfInBounds_ne hne]
          refine ih _ _ _ hsz' hcnt (.inl ⟨by simpa [ht0, Act.put] using hI.size, by simpa [ht0, Act.put] using hI.defs, hI.ext.trans he, ?_, ?_, ?_, ?_, ?_, ?_⟩)
          · intro j oj sj t hj hoj hsj hlj hdj
            rw [isL_set (by omega)] at hlj
            have htN : t0 < N := by simpa [ht0, dOk, Nat.blt_eq] using hdk
            by_cases e : i = j
            · subst e
              rw [ho] at hoj; cases hoj
              rw [hs] at hsj; cases hsj
              rw [ht0] at hdj; cases hdj
              have : (a.put o.dst v).tmps.getD t0 undef = v := by simp [ht0, Act.put, hI.size, htN]
              rw [this]; exact hv
            · have hlj' := hlj.resolve_left e
              have hne : t0 ≠ t := by
                intro e2
                subst e2
                have hnd2 := nodupB_spec hnd
                have : ∀ (l : List Oper) (x y : Nat) (ox oy : Oper), (dsts l).Nodup → l[x]? = some ox → l[y]? = some oy → ox.dst = some t0 → oy.dst = some t0 → x = y := by
                  intro l
                  induction l with
                  | nil => intro x y ox oy _ hx; simp at hx
                  | cons c l ihl =>
                    intro x y ox oy hn hx hy dx dy
                    have hin : ∀ (z : Nat) (oz : Oper), l[z]? = some oz → oz.dst = some t0 → t0 ∈ dsts l := fun z oz hz dz => List.mem_filterMap.2 ⟨oz, List.mem_iff_getElem?.2 ⟨z, hz⟩, dz⟩
                    have hcons : ∀ oc : Oper, oc = c → oc.dst = some t0 → t0 ∉ dsts l ∧ (dsts l).Nodup := by
                      rintro oc rfl hc
                      have : (t0 :: dsts l).Nodup := by simpa [dsts, hc] using hn
                      exact List.nodup_cons.1 this
                    cases x with
                    | zero =>
                      simp at hx
                      cases y with
                      | zero => rfl
                      | succ y => exact absurd (hin y oy (by simpa using hy) dy) (hcons ox hx.symm dx).1
                    | succ x =>
                      cases y with
                      | zero => simp at hy; exact absurd (hin x ox (by simpa using hx) dx) (hcons oy hy.symm dy).1
                      | succ y =>
                        have hn' : (dsts l).Nodup := by
                          cases hc : c.dst with
                          | none => simpa [dsts, hc] using hn
                          | some u => have : (u :: dsts l).Nodup := by simpa [dsts, hc] using hn
                                      exact (List.nodup_cons.1 this).2
                        exact congrArg (· + 1) (ihl x y ox oy hn' (by simpa using hx) (by simpa using hy) dx dy)
                exact e (this (ops.take h) i j o oj hnd2 (by rw [htake i hih]; exact ho) (by rw [htake j hj]; exact hoj) ht0 hdj)
              have : (a.put o.dst v).tmps.getD t undef = a.tmps.getD t undef := by simp [ht0, Act.put, Array.getElem?_setIfInBounds_ne hne]
              rw [this]
              exact Sp.ok_ext (hI.vals j oj sj t hj hoj hsj hlj' hdj) he
          · intro t hno
            have hne : t0 ≠ t := fun e => hno i o hih ho ((isL_set (by omega)).2 (.inl rfl)) (e ▸ ht0)
            have : (a.put o.dst v).tmps.getD t undef = a.tmps.getD t undef := by simp [ht0, Act.put, Array.getElem?_setIfInBounds_ne hne]
            rw [this]
            exact hI.old t fun j oj hj hoj hlj => hno j oj hj hoj ((isL_set (by omega)).2 (.inr hlj))
          · intro j oj hoj hlj k hk
            rw [isL_set (by omega)] at hlj ⊢
            by_cases e : i = j
            · subst e
              rw [ho] at hoj; cases hoj
              exact .inr (hed' k hk)
            · exact .inr (hI.shut j oj hoj (hlj.resolve_left e) k hk)
          · intro j hj
            rw [isL_set (by omega)]
            rintro (e | e)
            · omega
            · exact hI.head j hj e
          · intro x y ox oy t t' hx hy hxy hox hoy hlx hly hax hay htx hty
            rw [isL_set (by omega)] at hlx hly
            by_cases ex : i = x
            · subst ex
              rw [ho] at hox; cases hox
              rw [ht0] at htx; cases htx
              obtain ⟨b, hb, hb1, hb2⟩ := hfr hax
              rw [hself, hinj y oy t' hxy hy hoy hty]
              obtain ⟨b', hb', hlt'⟩ := hI.low y oy t' hy hoy (hly.resolve_left hxy) hay hty
              rw [hb, hb']
              intro hh; injection hh with hh; injection hh with hh; injection hh with hh; omega
            · by_cases ey : i = y
              · subst ey
                rw [ho] at hoy; cases hoy
                rw [ht0] at hty; cases hty
                obtain ⟨b, hb, hb1, hb2⟩ := hfr hay
                rw [hself, hinj x ox t ex hx hox htx]
                obtain ⟨b', hb', hlt'⟩ := hI.low x ox t hx hox (hlx.resolve_left ex) hax htx
                rw [hb, hb']
                intro hh; injection hh with hh; injection hh with hh; injection hh with hh; omega
              · rw [hinj x ox t ex hx hox htx, hinj y oy t' ey hy hoy hty]
                exact hI.dis x y ox oy t t' hx hy hxy hox hoy (hlx.resolve_left ex) (hly.resolve_left ey) hax hay htx hty
          · intro x ox t hx hox hlx hax htx
            rw [isL_set (by omega)] at hlx
            by_cases ex : i = x
            · subst ex
              rw [ho] at hox; cases hox
              rw [ht0] at htx; cases htx
              obtain ⟨b, hb, hb1, hb2⟩ := hfr hax
              exact ⟨b, by rw [hself]; exact hb, hb2⟩
            · obtain ⟨b', hb', hlt'⟩ := hI.low x ox t hx hox (hlx.resolve_left ex) hax htx
              exact ⟨b', by rw [hinj x ox t ex hx hox htx]; exact hb', by have := he.size; omega⟩
        unfold wpOpIn
        simp only [List.getElem?_toArray, ho]
        -- run or passed over
        have hal' := hal.at_ i o s (by rw [htake i hih]; exact ho) hs
        by_cases hisa : isAl o = true
        · obtain ⟨ta, za, Ba, hopa, hga, hza, hsa, hBa⟩ := hal' hisa
          rw [if_pos (by simp [Region.wanted, hga])]
          subst hsa
          have hg : Gv P o σ' w (fun v w' => ∃ b, v = .pointer (some ⟨b, 0, none⟩) ∧ New w w' b ta za.cells) := by
            obtain ⟨d1, op1, ty1, pos1, af1, g1⟩ := o
            have hopa : op1 = .alloc ta := hopa
            subst hopa
            exact g_alloc hza
          refine hg.wp hopnd fun v w' hv => ?_
          obtain ⟨b, hb, hn⟩ := hv
          have h2 := hn.2.2.1
          have h3 := hn.2.2.2
          exact next v w' hn.1 (fun w'' e => ⟨b, hb, by have := hI.ext.size; omega, hn.2.1.ext e⟩) (fun _ => ⟨b, hb, by omega, by omega⟩)
        have run : Gv P o σ' w (fun v w' => Ext w w' ∧ Sp.ok s v w') → o.wpIn (wf ro) 0 P a w (wpAnyIn (wf ro) 0 P .any ops.toArray Q fuel (listed.setIfInBounds i true)) Q :=
          fun hg => hg.wp hopnd fun v w' hv => next v w' hv.1 hv.2 (fun h => absurd h hisa)
        cases hgu : o.guard with
        | none =>
          simp only [gOk, hgu] at hG
          rw [if_pos (by simp [Region.wanted, hgu])]
          exact run hG
        | some g =>
          obtain ⟨j, b⟩ := g
          simp only [hgu] at hgd
          obtain ⟨p, hp, hpj⟩ := List.any_eq_true.1 hgd
          have hpj' : p.2 = j := by simpa using hpj
          have h1 := hdep p hp
          obtain ⟨h2, h3⟩ := h1
          rw [hpj'] at h2 h3
          split at h3
          · rename_i oj hoj
            have hdst : oj.dst = some p.1 := by simpa using h3
            have hjh : j < h := by
              rcases Nat.lt_or_ge j h with hh | hh
              · exact hh
              · rw [List.getElem?_eq_none (by omega)] at hoj; cases hoj
            have hoj' : ops[j]? = some oj := by rw [← htake j hjh]; exact hoj
            simp only [gOk, hgu, hoj, Option.bind_some, hdst] at hG
            have hyv : ∀ v, look σ' p.1 = some v → a.tmps.getD p.1 undef = v := by
              intro v hv
              rcases hσ' p.1 v hv with e | ⟨_, hn⟩
              · exact e.symm
              · exact absurd rfl (hn p hp)
            have hpN : p.1 < a.tmps.size := by
              have := hop j oj hjh hoj'
              simp only [okOp, Bool.and_eq_true] at this
              have := this.1.1.1.1.1
              rw [hdst] at this
              rw [hI.size]; simpa [dOk, Nat.blt_eq] using this
            have hyd : ∀ v, look σ' p.1 = some v → yielded ops.toArray a.tmps j = match v with | .bool b => some b | _ => none := by
              intro v hv
              have e1 := hyv v hv
              have e2 : a.tmps[p.1]? = some v := by
                rw [Array.getElem?_eq_getElem hpN]
                simp [Array.getElem?_eq_getElem hpN] at e1
                exact congrArg some e1
              unfold yielded
              simp only [List.getElem?_toArray, hoj', Option.bind_some, hdst, e2]
              cases v <;> rfl
            have skip : (∃ v, look σ' p.1 = some v ∧ (match v with | .bool b => some b | _ => none) ≠ some b) → Sp.ok s undef w →
                (if Region.wanted o (yielded ops.toArray a.tmps) = true then o.wpIn (wf ro) 0 P a w (wpAnyIn (wf ro) 0 P .any ops.toArray Q fuel (listed.setIfInBounds i true)) Q
                  else (∀ f, o.about P w a.eval = some f → (wf ro).fn f) ∧ wpAnyIn (wf ro) 0 P .any ops.toArray Q fuel (listed.setIfInBounds i true) (a.put o.dst undef) w) := by
              rintro ⟨v, hv, hne⟩ hok
              rw [if_neg (by simp only [Region.wanted, hgu, hyd v hv]; simpa using hne)]
              exact ⟨fun _ _ => trivial, next undef w (Ext.refl w) hok (fun h => absurd h hisa)⟩
            split at hG
            · exact hG.elim
            · rename_i c hc
              cases hx : Bool.xor c b with
              | true =>
                rw [hx] at hG
                refine skip ⟨.bool c, hc, ?_⟩ hG
                intro e
                simp only [Option.some.injEq] at e
                subst e; simp at hx
              | false =>
                rw [hx] at hG
                have hcb : c = b := by cases c <;> cases b <;> simp_all
                rw [if_pos (by simp only [Region.wanted, hgu, hyd _ hc, hcb]; simp)]
                exact run hG
            · rename_i v hnb hv
              refine skip ⟨v, hv, ?_⟩ hG
              intro e
              cases v with
              | bool c => exact hnb c rfl
              | _ => cases e
          · cases h3
      · have hall' : ∀ j, j < i → isL listed j := fun j hj => htail listed hI.shut i o hih ho hed' j hj
        have e : i = h := by
          rcases Nat.lt_or_ge h i with hh | hh
          · exact absurd (hall' h hh) (hI.head h (Nat.le_refl _))
          · omega
        subst e
        exact tailStep (Nat.le_refl _) hall' hI.head (toB listed a w hI hall')
    · have hpi : p = i := by
        have h1 : p ≤ i := Nat.le_of_not_lt fun hh => hunl (hlow i hh)
        rcases Nat.lt_or_ge p i with hh | hh
        · exact absurd (htail listed (fun k ok hok hlk j hj => hlow j (by have := hback' k ok hok j hj; have : k < p := Nat.lt_of_not_le (fun h => hhigh k h hlk); omega)) i o (by omega) ho hed' p hh) (hhigh p (Nat.le_refl _))
        · omega
      subst hpi
      exact tailStep hp hlow hhigh hwp
end

/-- **a region that draws its order** -/
theorem WC.parF {Q : Pst} {id : Nat} (hm : P.follows .mixedOrders = true) (h : Nat) (sp : List Sp) (deps : List (List (Tmp × Nat))) (hchk : okPar ops N h deps = true)
    (hob : Obs P w0 σ0 (ops.take h) sp (ops.take h) sp deps) (hal : AlOk P w0 (ops.take h) sp)
    (hfin : ∀ w, Ext w0 w → finQ (fun σ w => Apart (ops.take h) σ → WL P ro N ds ops.toArray (fun σ w => Q .normal σ ds w) (ops.drop h) σ w) w (ops.take h) sp σ0) : WC P ro N Q (.region id ops.toArray true) σ0 ds w0 := by
  refine ⟨fun a ha => ?_⟩
  have main : (Code.region id ops.toArray true).wpIn (wf ro) 0 P (fun e a w => e = .normal ∧ ∃ σ', Agr N σ' ds a ∧ Q .normal σ' ds w) a w0 := by
    refine wpIn_region_draw fun t => ?_
    simp only [Region.schedule, hm, Bool.true_or, if_true]
    refine wpAnyIn_sound ops.toArray.size t _ a _ ?_
    have hfalse : ∀ i, ¬ isL (Array.replicate ops.toArray.size false) i := by
      intro i
      unfold isL
      by_cases hi : i < ops.length <;> simp [hi]
    refine parF_any hchk ha hob hal (fun w he => ?_) _ _ _ _ (by simp) (by simpa using cnt_le _ _) (.inl ⟨ha.size, ha.defs, (Below.refl _ w0).drew, fun i o s t _ _ _ hl => absurd hl (hfalse i), fun t _ => rfl, fun i o _ hl => absurd hl (hfalse i), fun i _ => hfalse i, fun i j oi oj t t' _ _ _ _ _ hl => absurd hl (hfalse i), fun i o t _ _ hl => absurd hl (hfalse i)⟩)
    have key : ∀ (os : List Oper) (ss : List Sp) (σ : Env), finQ (fun σ w => Apart (ops.take h) σ → WL P ro N ds ops.toArray (fun σ w => Q .normal σ ds w) (ops.drop h) σ w) w os ss σ →
        finQ (fun σ w => Apart (ops.take h) σ → ∀ a, Agr N σ ds a → wpListIn (wf ro) 0 P ops.toArray (fun e a w => e = .normal ∧ ∃ σ', Agr N σ' ds a ∧ Q .normal σ' ds w) (ops.drop h) a w) w os ss σ := by
      intro os
      induction os with
      | nil => intro ss σ hq; exact fun hA => WL.out (hq hA)
      | cons o os ih =>
        intro ss σ hq
        cases ss with
        | nil => exact fun hA => WL.out (hq hA)
        | cons s ss =>
          cases s with
          | inl v => exact ih ss _ hq
          | inr p => exact fun v hv => ih ss _ (hq v hv)
    exact key _ _ _ (hfin w he)
  refine wpIn_mono main ?_
  rintro e a' w' ⟨rfl, σ', hag, hk⟩
  exact ⟨σ', ds, hag, hk⟩
end
end Go.Kx

namespace Go.Kx
open Go Go.RowKit
/-- words lie in no block of other things -/
theorem eW_sep {S : Nat → Prop} {w : World} {v : Value} {l : List Nat} {b : Nat} {t : TypeId} {cs : Array Value} (h : eW.R S w v l) (hb : Blk w b t cs) (hc : ∀ (i : Nat) (n : Int), cs[i]? ≠ some (Value.int .u32 n)) : eW.R (fun k => S k ∧ k ≠ b) w v l := by
  obtain ⟨es, he, a, c, hv, h1, h2, h3, h4⟩ := h
  refine ⟨es, ⟨he.1, fun i e x hx hy => he.2 i e x hx hy⟩, a, c, hv, h1, h2, h3, fun hn => ?_⟩
  obtain ⟨ad, ha, hS, hcl⟩ := h4 hn
  refine ⟨ad, ha, ⟨hS, fun e => ?_⟩, hcl⟩
  obtain ⟨e0, he0⟩ : ∃ e, es[0]? = some e := ⟨_, List.getElem?_eq_getElem (by rw [he.1]; exact hn)⟩
  obtain ⟨rfl, _⟩ := he.2 0 e0 _ he0 (List.getElem?_eq_getElem hn)
  have hg := cellsOf_get (sz := 1) es 0 0 _ he.sz he0 (by omega)
  have hcell := hcl 0 (.int .u32 l[0]) hg
  obtain ⟨b0, o0, g0⟩ := ad
  have e : b0 = b := e
  subst e
  have h' : w.heap[b0]? = some (.cells cs t (0, 0)) := hb
  simp only [World.cell?, Addr.add, if_pos, h'] at hcell
  split at hcell
  · cases hcell
  · exact hc _ _ hcell
theorem eZ_sep {S : Nat → Prop} {w : World} {v : Value} {z : ZV} {b : Nat} {t : TypeId} {cs : Array Value} (h : eZ.R S w v z) (hb : Blk w b t cs) (hc : ∀ (i : Nat) (n : Int), cs[i]? ≠ some (Value.int .u32 n)) : eZ.R (fun k => S k ∧ k ≠ b) w v z := by
  obtain ⟨s, hv, hs⟩ := h
  exact ⟨s, hv, eW_sep hs hb hc⟩
theorem zero_sep : ∀ (i : Nat) (n : Int), (#[.bool false, .slice none 0 0] : Array Value)[i]? ≠ some (Value.int .u32 n) := by
  intro i n
  match i with
  | 0 => simp
  | 1 => simp
  | i + 2 => simp
theorem two_off {x y a b : Value} : ∀ (j : Nat) (u : Value), [a, b][j]? = some u → (#[x, y, a, b] : Array Value)[2 + j]? = some u := by
  intro j u hu
  match j with
  | 0 => exact hu
  | 1 => exact hu
  | j + 2 => simp at hu
theorem two_on {x y a b : Value} : ∀ (j : Nat) (u : Value), [x, y][j]? = some u → (#[x, y, a, b] : Array Value)[0 + j]? = some u := by
  intro j u hu
  match j with
  | 0 => exact hu
  | 1 => exact hu
  | j + 2 => simp at hu
end Go.Kx
namespace Go.Proofs.YtgghedhmjhaieaaGreat
open Go Go.Kx Go.RowKit

theorem E_ref02_one : Ent Tryz.prog 107 := ent_of Tryz.func107 (by kernel_rfl) rfl
theorem ref02_one_c {S : Nat → Prop} {w : World} (up : Up S w) : CR Tryz.prog 107 #[] w (eZ.at S (zc 1)) := by
  refine enter Tryz.func107 rfl Tryz.ntmps107 rfl ?_
  refine .seq (.region (.alloc rfl zero_Z fun w1 b1 n1 => .nil ?_))
  obtain ⟨e1, k1, hb1, hs1⟩ := n1
  have hS : ¬ Sx S w.heap.size w1.heap.size b1 := Sx.no (by omega) (by omega)
  have up1 : Up (Sx S w.heap.size w1.heap.size) w1 := Sx.up up (Nat.le_refl _) e1.size
  refine .seq (.region (.call _ rfl E_ref01_From rfl (ref01_From_c up1 (by decide) (by decide)) fun v2 w2 e2 h2 => ?_))
  refine .storeA (E := eZ) ty_Z rfl rfl (k1.ext e2) rfl rfl h2 hS fun w5 k5 u5 h5 => .nil (.ret ?_)
  exact .cell Tryz.results107 rfl ty_Z rfl rfl k5 h5 ⟨u5.below (e1.trans e2) (by omega), h5.out⟩

theorem E_ref02_den : Ent Tryz.prog 86 := ent_of Tryz.func86 (by kernel_rfl) rfl
theorem ref02_den_c {S : Nat → Prop} {w : World} {v : Value} {q : QV} {L : Nat} (up : Up S w) (h : eQ.R S w v q) (hl : qok L q) (hL : L ≤ 1000000000) : CR Tryz.prog 86 #[v] w (eZ.at S (zc (pd q))) := by
  obtain ⟨s, t, rfl, hn, hd⟩ := eQ_parts h
  refine enter Tryz.func86 rfl Tryz.ntmps86 rfl ?_
  refine .seq (.region (.box rfl rfl fun w1 b1 n1 => .alloc rfl zero_Z fun w2 b2 n2 => .nil ?_))
  obtain ⟨e1, k1, hb1, hs1⟩ := n1
  obtain ⟨e2, k2, hb2, hs2⟩ := n2
  have x2 := e1.trans e2
  have k1 := k1.ext e2
  have hS : ¬ Sx S w.heap.size w2.heap.size b2 := Sx.no (by omega) (by omega)
  have up2 : Up (Sx S w.heap.size w2.heap.size) w2 := Sx.up up (Nat.le_refl _) x2.size
  have hd2 := (ER.par eZ hd w2.heap.size).ext x2
  refine .seq (.seq (.region (.fa fld_Q1 rfl rfl (.ldN [.bool q.den.neg, t] ty_Z rfl rfl k1 two_off ?_))))
  refine .call _ rfl E_ref01_Sign rfl (ref01_Sign_c up2 hd2 (Nat.le_trans hl.2 hL)) fun v3 w3 e3 h3 => ?_
  subst h3
  have hp : zval q.den ≠ 0 → pd q = (val q.den.w : Nat) := by
    intro h0
    have := zval_natAbs q.den
    unfold pd; rw [if_neg h0]; split <;> omega
  by_cases h0 : zval q.den = 0
  · refine .eqlT rfl rfl rfl (by rw [h0]; rfl) (.nil (.condT rfl (.seq (.region ?_))))
    refine .call _ rfl E_ref02_one rfl (ref02_one_c (up2.ext e3.size)) fun v4 w4 e4 h4 => ?_
    refine .storeA (E := eZ) ty_Z rfl rfl ((k2.ext e3).ext e4) rfl rfl h4 hS fun w5 k5 u5 h5 => .nil (.ret ?_)
    exact .cell Tryz.results86 rfl ty_Z rfl rfl k5 h5 ⟨u5.below ((x2.trans e3).trans e4) (by omega), by rw [show pd q = 1 by unfold pd; rw [if_pos h0]]; exact h5.out⟩
  · refine .eqlF rfl rfl rfl (fun h => h0 (Int.sign_eq_zero_iff_zero.1 h)) (.nil (.condF rfl (.skip (.seq (.region (.fa fld_Q1 rfl rfl (.ldN [.bool q.den.neg, t] ty_Z rfl rfl (k1.ext e3) two_off ?_)))))))
    refine .call _ rfl E_ref01_Abs rfl (ref01_Abs_c (up2.ext e3.size) (ER.ext eZ hd2 e3) (Nat.le_trans hl.2 hL)) fun v4 w4 e4 h4 => ?_
    refine .storeA (E := eZ) ty_Z rfl rfl ((k2.ext e3).ext e4) rfl rfl h4 hS fun w5 k5 u5 h5 => .nil (.ret ?_)
    exact .cell Tryz.results86 rfl ty_Z rfl rfl k5 h5 ⟨u5.below ((x2.trans e3).trans e4) (by omega), by rw [hp h0]; exact h5.out⟩

theorem E_ref02_num : Ent Tryz.prog 85 := ent_of Tryz.func85 (by kernel_rfl) rfl
theorem ref02_num_c {S : Nat → Prop} {w : World} {v : Value} {q : QV} {L : Nat} (up : Up S w) (h : eQ.R S w v q) (hl : qok L q) (hL : L ≤ 1000000000) : CR Tryz.prog 85 #[v] w (eZ.at S (zc (pn q))) := by
  obtain ⟨s, t, rfl, hn, hd⟩ := eQ_parts h
  refine enter Tryz.func85 rfl Tryz.ntmps85 rfl ?_
  refine .seq (.region (.box rfl rfl fun w1 b1 n1 => .alloc rfl zero_Z fun w2 b2 n2 => .nil ?_))
  obtain ⟨e1, k1, hb1, hs1⟩ := n1
  obtain ⟨e2, k2, hb2, hs2⟩ := n2
  have x2 := e1.trans e2
  have k1 := k1.ext e2
  have hS : ¬ Sx S w.heap.size w2.heap.size b2 := Sx.no (by omega) (by omega)
  have up2 : Up (Sx S w.heap.size w2.heap.size) w2 := Sx.up up (Nat.le_refl _) x2.size
  have hd2 := (ER.par eZ hd w2.heap.size).ext x2
  have hn2 := (ER.par eZ hn w2.heap.size).ext x2
  refine .seq (.seq (.region (.fa fld_Q1 rfl rfl (.ldN [.bool q.den.neg, t] ty_Z rfl rfl k1 two_off ?_))))
  refine .call _ rfl E_ref01_Sign rfl (ref01_Sign_c up2 hd2 (Nat.le_trans hl.2 hL)) fun v3 w3 e3 h3 => ?_
  subst h3
  by_cases h0 : zval q.den < 0
  · refine .lssT rfl rfl rfl (by rw [Int.sign_eq_neg_one_of_neg h0]; decide) (.nil (.condT rfl (.seq (.region (.fa fld_Q0 rfl rfl (.ldN [.bool q.num.neg, s] ty_Z rfl rfl (k1.ext e3) two_on ?_))))))
    refine .call _ rfl E_ref01_Neg rfl (ref01_Neg_c (up2.ext e3.size) (ER.ext eZ hn2 e3) (Nat.le_trans hl.1 hL)) fun v4 w4 e4 h4 => ?_
    refine .storeA (E := eZ) ty_Z rfl rfl ((k2.ext e3).ext e4) rfl rfl h4 hS fun w5 k5 u5 h5 => .nil (.ret ?_)
    exact .cell Tryz.results85 rfl ty_Z rfl rfl k5 h5 ⟨u5.below ((x2.trans e3).trans e4) (by omega), by rw [show pn q = -zval q.num by unfold pn; rw [if_pos h0]]; exact h5.out⟩
  · refine .lssF rfl rfl rfl (fun h => h0 (Int.sign_neg_iff.1 h)) (.nil (.condF rfl (.skip (.seq (.region (.fa fld_Q0 rfl rfl (.ldN [.bool q.num.neg, s] ty_Z rfl rfl (k1.ext e3) two_on ?_)))))))
    refine .call _ rfl E_ref01_Least rfl (ref01_Least_c (up2.ext e3.size) (ER.ext eZ hn2 e3) (Nat.le_trans hl.1 (by omega))) fun v4 w4 e4 h4 => ?_
    refine .storeA (E := eZ) ty_Z rfl rfl ((k2.ext e3).ext e4) rfl rfl h4 hS fun w5 k5 u5 h5 => .nil (.ret ?_)
    exact .cell Tryz.results85 rfl ty_Z rfl rfl k5 h5 ⟨u5.below ((x2.trans e3).trans e4) (by omega), by rw [show pn q = zval q.num by unfold pn; rw [if_neg h0]]; exact h5.out⟩

theorem E_ref02_over : Ent Tryz.prog 87 := ent_of Tryz.func87 (by kernel_rfl) rfl
theorem ref02_over_c {S : Nat → Prop} {w : World} {va vb : Value} {a b : ZV} {L : Nat} (up : Up S w) (ha : eZ.R S w va a) (hb : eZ.R S w vb b) (hla : a.w.length ≤ L) (hlb : b.w.length ≤ L) (hL : L ≤ 1000000000) (hb0 : 0 < zval b) : CR Tryz.prog 87 #[va, vb] w (eQ.at S (qc (Rat.divInt (zval a) (zval b)))) := by
  have hda := eZ_dig ha
  have hdb := eZ_dig hb
  have hqc := qc_divInt (n := zval a) hb0
  have hga := zval_natAbs a
  have hgb := zval_natAbs b
  have hBp : 0 < val b.w := by omega
  have hla1 := zval_lt hda hla
  have hlb1 := zval_lt hdb hlb
  rw [hga] at hla1
  rw [hgb] at hlb1
  rw [hga, hgb] at hqc
  have hg1 : Nat.gcd (val a.w) (val b.w) ≤ val b.w := Nat.gcd_le_right _ hBp
  have hg0 : 0 < Nat.gcd (val a.w) (val b.w) := Nat.gcd_pos_of_pos_right _ hBp
  generalize hgg : Nat.gcd (val a.w) (val b.w) = g at *
  obtain ⟨s, rfl, hs⟩ := ha
  obtain ⟨t, rfl, ht⟩ := hb
  have ha : eZ.R S w (.agg #[.bool a.neg, s]) a := ⟨s, rfl, hs⟩
  have hb : eZ.R S w (.agg #[.bool b.neg, t]) b := ⟨t, rfl, ht⟩
  refine enter Tryz.func87 rfl Tryz.ntmps87 rfl ?_
  refine .seq (.region (.box rfl rfl fun w1 b2 n1 => .box rfl rfl fun w2 b3 n2 => .alloc rfl zero_Q fun w3 b4 n3 => .nil ?_))
  obtain ⟨e1, k2, hb2, hs1⟩ := n1
  obtain ⟨e2, k3, hb3, hs2⟩ := n2
  obtain ⟨e3, k4, hb4, hs3⟩ := n3
  have x3 := (e1.trans e2).trans e3
  have k2 := (k2.ext e2).ext e3
  have k3 := k3.ext e3
  have hS4 : ¬ Sx S w.heap.size w3.heap.size b4 := Sx.no (by omega) (by omega)
  have up3 : Up (Sx S w.heap.size w3.heap.size) w3 := Sx.up up (Nat.le_refl _) x3.size
  have ha3 := (ER.par eZ ha w3.heap.size).ext x3
  have hb3' := (ER.par eZ hb w3.heap.size).ext x3
  have hout : ∀ {W : World} {v : Value} {z : QV}, eQ.R (Sx S w.heap.size w3.heap.size) W v z → eQ.R S W v z := fun h => h.out
  generalize hT : Sx S w.heap.size w3.heap.size = T at *
  refine .seq (.region (.ldA ty_Z rfl rfl k2 rfl (.ldA ty_Z rfl rfl k3 rfl ?_)))
  refine .call _ rfl E_ref01_Gcd rfl (ref01_Gcd_c up3 ha3 hb3' (by omega) (by omega)) fun v4 w4 e4 h4 => ?_
  rw [hgg] at h4
  obtain ⟨s4, rfl, hs4⟩ := h4
  have h4 : eZ.R T w4 (.agg #[.bool (zc (g : Nat)).neg, s4]) (zc (g : Nat)) := ⟨s4, rfl, hs4⟩
  refine .alloc rfl zero_Z fun w5 b5 n5 => ?_
  obtain ⟨e5, k5, hb5, hs5⟩ := n5
  refine .storeA (E := eZ) ty_Z rfl rfl k5 rfl rfl (ER.ext eZ (ER.lt eZ h4) e5) (fun h => by have := h.2; omega) fun w6 k5 u6 _ => .nil ?_
  have e46 : Ext w4 w6 := u6.below e5 (by omega)
  have e36 := e4.trans e46
  have up6 := up3.ext e36.size
  have lg : (zc (g : Nat)).w.length ≤ 1000000000 := Nat.le_trans (zc_len (L := L) (by rw [Int.natAbs_natCast]; exact Nat.lt_of_le_of_lt hg1 hlb1)) hL
  have hgz : zval (zc ((g : Nat) : Int)) = (g : Int) := zval_zc _
  -- the two quotients
  refine .seq (.region (.ldA ty_Z rfl rfl (k2.ext e36) rfl (.ldA ty_Z rfl rfl k5 rfl ?_)))
  refine .call _ rfl E_ref01_Div rfl (ref01_Div_c up6 (ER.ext eZ ha3 e36) (ER.ext eZ h4 e46) (by omega) lg (by rw [hgz]; omega)) fun v7 w7 e7 h7 => ?_
  obtain ⟨vq, vr, _, rfl, hq, hr, rfl⟩ := h7
  rw [hgz] at hq hr
  obtain ⟨sq, rfl, hsq⟩ := hq
  have hq : eZ.R T w7 (.agg #[.bool (zc (zval a / (g : Nat))).neg, sq]) (zc (zval a / (g : Nat))) := ⟨sq, rfl, hsq⟩
  refine .mv rfl rfl (.ext rfl rfl rfl (.ext rfl rfl rfl (.ext rfl rfl rfl (.alloc rfl zero_Z fun w8 b6 n8 => .alloc rfl zero_Z fun w9 b7 n9 => ?_))))
  obtain ⟨e8, k6, hb6, hs8⟩ := n8
  obtain ⟨e9, k7, hb7, hs9⟩ := n9
  have e79 := e8.trans e9
  refine .storeA (E := eZ) ty_Z rfl rfl (k6.ext e9) rfl rfl (ER.ext eZ (ER.lt eZ hq) e79) (fun h => by have := h.2; omega) fun w10 k6 u10 _ => ?_
  have e710 : Ext w7 w10 := u10.below e79 (by omega)
  refine .storeA (E := eZ) ty_Z rfl rfl (k7.upd u10 (by omega)) rfl rfl (ER.ext eZ (ER.lt eZ hr) e710) (fun h => by have := h.2; omega) fun w11 k7 u11 _ => .asg rfl rfl (.nil ?_)
  have e711 : Ext w7 w11 := u11.below e710 (by omega)
  have k6 := k6.upd u11 (by omega)
  have e611 := e7.trans e711
  have up11 := up6.ext e611.size
  have k5 := k5.ext e611
  have e311 := e36.trans e611
  refine .seq (.region (.ldA ty_Z rfl rfl (k3.ext e311) rfl (.ldA ty_Z rfl rfl k5 rfl ?_)))
  refine .call _ rfl E_ref01_Div rfl (ref01_Div_c up11 (ER.ext eZ hb3' e311) (ER.ext eZ (ER.ext eZ h4 e46) e611) (by omega) lg (by rw [hgz]; omega)) fun v12 w12 e12 h12 => ?_
  obtain ⟨vd, ve, _, rfl, hd, he, rfl⟩ := h12
  rw [hgz] at hd he
  obtain ⟨sd, rfl, hsd⟩ := hd
  have hd : eZ.R T w12 (.agg #[.bool (zc (zval b / (g : Nat))).neg, sd]) (zc (zval b / (g : Nat))) := ⟨sd, rfl, hsd⟩
  refine .mv rfl rfl (.ext rfl rfl rfl (.ext rfl rfl rfl (.ext rfl rfl rfl (.alloc rfl zero_Z fun w13 b9 n13 => .alloc rfl zero_Z fun w14 b10 n14 => ?_))))
  obtain ⟨e13, k9, hb9, hs13⟩ := n13
  obtain ⟨e14, k10, hb10, hs14⟩ := n14
  have e1214 := e13.trans e14
  refine .storeA (E := eZ) ty_Z rfl rfl (k9.ext e14) rfl rfl (ER.ext eZ (ER.lt eZ hd) e1214) (fun h => by have := h.2; omega) fun w15 k9 u15 _ => ?_
  have e1215 : Ext w12 w15 := u15.below e1214 (by omega)
  refine .storeA (E := eZ) ty_Z rfl rfl (k10.upd u15 (by omega)) rfl rfl (ER.ext eZ (ER.lt eZ he) e1215) (fun h => by have := h.2; omega) fun w16 k10 u16 _ => .asg rfl rfl (.nil ?_)
  have e1216 : Ext w12 w16 := u16.below e1215 (by omega)
  have k9 := k9.upd u16 (by omega)
  have e1116 := e12.trans e1216
  have k6 := k6.ext e1116
  have up16 := up11.ext e1116.size
  have hd := ER.ext eZ hd e1216
  have hq := ER.ext eZ hq (e711.trans e1116)
  have hdl : (zc (zval b / (g : Nat))).w.length ≤ 1000000000 := Nat.le_trans (zc_len (L := L) (Nat.lt_of_le_of_lt (Int.natAbs_ediv_le_natAbs _ _) (by rw [hgb]; exact hlb1))) hL
  have e316 := e311.trans e1116
  have k4 := k4.ext e316
  refine .seq (.seq ?_)
  refine .par follows 4 [.inl (.agg #[.bool (zc (zval b / (g : Nat))).neg, sd]), .inr (eZ.at T (zc 1)), .inl (.int .i64 (cmpI (zval (zc (zval b / (g : Nat)))) (zval (zc 1)))), .inl (.bool (cmpI (zval (zc (zval b / (g : Nat)))) (zval (zc 1)) == 0))] [[], [], [(29, 0), (30, 1)], [(31, 2)]] (by kernel_rfl) ⟨
    fun w e => (v_ldA ty_Z rfl (k9.ext e) rfl).ob, fun w e => (g_call _ E_ref02_one rfl (ref02_one_c (up16.ext e.size))).ob (st_at _ _ _),
    fun w e x hx => g_call _ E_ref01_Cmp rfl (ref01_Cmp_c (up16.ext e.size) (ER.ext eZ hd e) hx hdl (Nat.le_trans (zc_len (L := 1) (by decide)) (by omega))), fun w e => (v_eql rfl rfl).ob, trivial⟩ ?_
  intro w17 e17 x1 hx1
  rw [zval_zc, zval_zc]
  have k4 := k4.ext e17
  have k6 := k6.ext e17
  have k9 := k9.ext e17
  obtain ⟨sq', he1, hsq'⟩ := ER.ext eZ hq e17
  obtain ⟨sd', he2, hsd'⟩ := ER.ext eZ hd e17
  injection he1 with he1
  injection he2 with he2
  simp at he1 he2
  subst he1
  subst he2
  have hxx := x3.trans (e316.trans e17)
  by_cases h1 : zval b / (g : Nat) = 1
  · rw [show (cmpI (zval b / (g : Nat)) 1 == 0) = true by rw [h1]; decide]
    rw [if_pos h1] at hqc
    have hfin : eQ.R T w17 (.agg #[.bool (zc (zval a / (g : Nat))).neg, sq, .bool false, .slice none 0 0]) (qc (Rat.divInt (zval a) (zval b))) := by
      rw [hqc]; exact ⟨sq, .slice none 0 0, rfl, hsq', RL.nil⟩
    refine .nil (.condT rfl (.seq (.region (.ldA ty_Z rfl rfl k6 rfl (.bld [(0, .agg #[.bool (zc (zval a / (g : Nat))).neg, sq])] rfl rfl bld_Q1 ?_)))))
    refine .storeA (E := eQ) ty_Q rfl rfl k4 rfl rfl hfin hS4 fun w18 k18 u18 h18 => .nil (.ret ?_)
    exact .cell Tryz.results87 rfl ty_Q rfl rfl k18 h18 ⟨u18.below hxx (by omega), hout h18⟩
  · rw [show (cmpI (zval b / (g : Nat)) 1 == 0) = false by unfold cmpI; split <;> (try split) <;> first | rfl | omega]
    rw [if_neg h1] at hqc
    have hfin : eQ.R T w17 (.agg #[.bool (zc (zval a / (g : Nat))).neg, sq, .bool (zc (zval b / (g : Nat))).neg, sd]) (qc (Rat.divInt (zval a) (zval b))) := by
      rw [hqc]; exact ⟨sq, sd, rfl, hsq', hsd'⟩
    refine .nil (.condF rfl (.skip (.seq (.region (.ldA ty_Z rfl rfl k6 rfl (.ldA ty_Z rfl rfl k9 rfl (.bld [(0, .agg #[.bool (zc (zval a / (g : Nat))).neg, sq]), (1, .agg #[.bool (zc (zval b / (g : Nat))).neg, sd])] rfl rfl bld_Q2 ?_)))))))
    refine .storeA (E := eQ) ty_Q rfl rfl k4 rfl rfl hfin hS4 fun w18 k18 u18 h18 => .nil (.ret ?_)
    exact .cell Tryz.results87 rfl ty_Q rfl rfl k18 h18 ⟨u18.below hxx (by omega), hout h18⟩
end Go.Proofs.YtgghedhmjhaieaaGreat

namespace Go.Kx
theorem pow_mulz {L m n : Nat} {x y : Int} (h1 : x.natAbs < L ^ m) (h2 : y.natAbs < L ^ n) : (x * y).natAbs < L ^ (m + n) := by
  rw [Int.natAbs_mul, Nat.pow_add]; exact Nat.mul_lt_mul'' h1 h2
theorem pow_addz {m : Nat} {x y : Int} (h1 : x.natAbs < 4294967296 ^ m) (h2 : y.natAbs < 4294967296 ^ m) : (x + y).natAbs < 4294967296 ^ (m + 1) := by
  have := Int.natAbs_add_le x y
  rw [Nat.pow_succ]; omega
end Go.Kx
namespace Go.Proofs.YtgghedhmjhaieaaGreat
open Go Go.Kx Go.RowKit

theorem zl {n : Int} {L K : Nat} (h : n.natAbs < 4294967296 ^ L) (hL : L ≤ K) : (zc n).w.length ≤ K := Nat.le_trans (zc_len h) hL
theorem eQ_digs {S : Nat → Prop} {w : World} {v : Value} {q : QV} (h : eQ.R S w v q) : dig q.num.w ∧ dig q.den.w := by
  obtain ⟨s, t, _, h1, h2⟩ := h
  exact ⟨eW_lt h1, eW_lt h2⟩

theorem E_ref02_Least : Ent Tryz.prog 62 := ent_of Tryz.func62 (by kernel_rfl) rfl
theorem ref02_Least_c {S : Nat → Prop} {w : World} {v : Value} {q : QV} {L : Nat} (up : Up S w) (h : eQ.R S w v q) (hl : qok L q) (h1 : 1 ≤ L) (hL : L ≤ 1000000000) : CR Tryz.prog 62 #[v] w (eQ.at S (qc (qval q))) := by
  obtain ⟨hd1, hd2⟩ := eQ_digs h
  have hln := pn_lt hd1 hl
  have hld := pd_lt hd2 hl h1
  have hpp := pd_pos q
  obtain ⟨s, t, rfl, hs, ht⟩ := h
  have h : eQ.R S w (.agg #[.bool q.num.neg, s, .bool q.den.neg, t]) q := ⟨s, t, rfl, hs, ht⟩
  refine enter Tryz.func62 rfl Tryz.ntmps62 rfl ?_
  refine .seq (.region (.box rfl rfl fun w1 b1 n1 => .alloc rfl zero_Q fun w2 b2 n2 => .nil ?_))
  obtain ⟨e1, k1, hb1, hs1⟩ := n1
  obtain ⟨e2, k2, hb2, hs2⟩ := n2
  have x2 := e1.trans e2
  have k1 := k1.ext e2
  have hS : ¬ Sx S w.heap.size w2.heap.size b2 := Sx.no (by omega) (by omega)
  have up2 : Up (Sx S w.heap.size w2.heap.size) w2 := Sx.up up (Nat.le_refl _) x2.size
  have h2 := (ER.par eQ h w2.heap.size).ext x2
  have hout : ∀ {W : World} {v : Value} {z : QV}, eQ.R (Sx S w.heap.size w2.heap.size) W v z → eQ.R S W v z := fun h => h.out
  generalize hT : Sx S w.heap.size w2.heap.size = T at *
  refine .seq ?_
  refine .par follows 5 [.inl _, .inr (eZ.at T (zc (pn q))), .inl _, .inr (eZ.at T (zc (pd q))), .inr (eQ.at T (qc (Rat.divInt (zval (zc (pn q))) (zval (zc (pd q))))))] [[], [(3, 0)], [], [(5, 2)], [(4, 1), (6, 3)]] (by kernel_rfl) ⟨
    fun w e => (v_ldA ty_Q rfl (k1.ext e) rfl).ob, fun w e => (g_call _ E_ref02_num rfl (ref02_num_c (up2.ext e.size) (ER.ext eQ h2 e) hl hL)).ob (st_at _ _ _),
    fun w e => (v_ldA ty_Q rfl (k1.ext e) rfl).ob, fun w e => (g_call _ E_ref02_den rfl (ref02_den_c (up2.ext e.size) (ER.ext eQ h2 e) hl hL)).ob (st_at _ _ _),
    fun w e x hx y hy => (g_call _ E_ref02_over rfl (ref02_over_c (up2.ext e.size) hx hy (zl hln (Nat.le_refl _)) (zl hld (Nat.le_refl _)) hL (by rw [zval_zc]; exact hpp))).ob (st_at _ _ _), trivial⟩ ?_
  intro w3 e3 x hx y hy z hz
  rw [zval_zc, zval_zc] at hz
  refine .storeA (E := eQ) ty_Q rfl rfl (k2.ext e3) rfl rfl hz hS fun w4 k4 u4 h4 => .nil (.ret ?_)
  exact .cell Tryz.results62 rfl ty_Q rfl rfl k4 h4 ⟨u4.below (x2.trans e3) (by omega), hout h4⟩

theorem E_ref02_Neg : Ent Tryz.prog 139 := ent_of Tryz.func139 (by kernel_rfl) rfl
theorem ref02_Neg_c {S : Nat → Prop} {w : World} {v : Value} {q : QV} {L : Nat} (up : Up S w) (h : eQ.R S w v q) (hl : qok L q) (h1 : 1 ≤ L) (hL : L ≤ 1000000000) : CR Tryz.prog 139 #[v] w (eQ.at S (qc (-qval q))) := by
  obtain ⟨hd1, hd2⟩ := eQ_digs h
  have hln := pn_lt hd1 hl
  have hld := pd_lt hd2 hl h1
  have hpp := pd_pos q
  obtain ⟨s, t, rfl, hs, ht⟩ := h
  have h : eQ.R S w (.agg #[.bool q.num.neg, s, .bool q.den.neg, t]) q := ⟨s, t, rfl, hs, ht⟩
  refine enter Tryz.func139 rfl Tryz.ntmps139 rfl ?_
  refine .seq (.region (.box rfl rfl fun w1 b1 n1 => .alloc rfl zero_Q fun w2 b2 n2 => .nil ?_))
  obtain ⟨e1, k1, hb1, hs1⟩ := n1
  obtain ⟨e2, k2, hb2, hs2⟩ := n2
  have x2 := e1.trans e2
  have k1 := k1.ext e2
  have hS : ¬ Sx S w.heap.size w2.heap.size b2 := Sx.no (by omega) (by omega)
  have up2 : Up (Sx S w.heap.size w2.heap.size) w2 := Sx.up up (Nat.le_refl _) x2.size
  have h2 := (ER.par eQ h w2.heap.size).ext x2
  have hout : ∀ {W : World} {v : Value} {z : QV}, eQ.R (Sx S w.heap.size w2.heap.size) W v z → eQ.R S W v z := fun h => h.out
  generalize hT : Sx S w.heap.size w2.heap.size = T at *
  refine .seq ?_
  refine .par follows 6 [.inl _, .inr (eZ.at T (zc (pn q))), .inr (eZ.at T (zc (-zval (zc (pn q))))), .inl _, .inr (eZ.at T (zc (pd q))), .inr (eQ.at T (qc (Rat.divInt (zval (zc (-zval (zc (pn q))))) (zval (zc (pd q))))))] [[], [(3, 0)], [(4, 1)], [], [(6, 3)], [(5, 2), (7, 4)]] (by kernel_rfl) ⟨
    fun w e => (v_ldA ty_Q rfl (k1.ext e) rfl).ob, fun w e => (g_call _ E_ref02_num rfl (ref02_num_c (up2.ext e.size) (ER.ext eQ h2 e) hl hL)).ob (st_at _ _ _),
    fun w e x hx => (g_call _ E_ref01_Neg rfl (ref01_Neg_c (up2.ext e.size) hx (zl hln hL))).ob (st_at _ _ _),
    fun w e => (v_ldA ty_Q rfl (k1.ext e) rfl).ob, fun w e => (g_call _ E_ref02_den rfl (ref02_den_c (up2.ext e.size) (ER.ext eQ h2 e) hl hL)).ob (st_at _ _ _),
    fun w e x hx y hy => (g_call _ E_ref02_over rfl (ref02_over_c (up2.ext e.size) hx hy (zl (by rw [zval_zc, Int.natAbs_neg]; exact hln) (Nat.le_refl _)) (zl hld (Nat.le_refl _)) hL (by rw [zval_zc]; exact hpp))).ob (st_at _ _ _), trivial⟩ ?_
  intro w3 e3 x hx y hy z hz u hu
  rw [zval_zc, zval_zc, zval_zc, ← Rat.neg_divInt] at hu
  refine .storeA (E := eQ) ty_Q rfl rfl (k2.ext e3) rfl rfl hu hS fun w4 k4 u4 h4 => .nil (.ret ?_)
  exact .cell Tryz.results139 rfl ty_Q rfl rfl k4 h4 ⟨u4.below (x2.trans e3) (by omega), hout h4⟩

theorem E_ref02_Sign : Ent Tryz.prog 120 := ent_of Tryz.func120 (by kernel_rfl) rfl
theorem ref02_Sign_c {S : Nat → Prop} {w : World} {v : Value} {q : QV} {L : Nat} (up : Up S w) (h : eQ.R S w v q) (hl : qok L q) (hL : L ≤ 1000000000) : CR Tryz.prog 120 #[v] w (Is (.int .i64 (pn q).sign)) := by
  obtain ⟨hd1, hd2⟩ := eQ_digs h
  have hln := pn_lt hd1 hl
  obtain ⟨s, t, rfl, hs, ht⟩ := h
  have h : eQ.R S w (.agg #[.bool q.num.neg, s, .bool q.den.neg, t]) q := ⟨s, t, rfl, hs, ht⟩
  refine enter Tryz.func120 rfl Tryz.ntmps120 rfl ?_
  refine .seq (.region (.box rfl rfl fun w1 b1 n1 => .asg rfl rfl (.nil ?_)))
  obtain ⟨e1, k1, hb1, hs1⟩ := n1
  refine .seq (.region (.ldA ty_Q rfl rfl k1 rfl ?_))
  refine .call _ rfl E_ref02_num rfl (ref02_num_c (up.ext e1.size) (ER.ext eQ h e1) hl hL) fun v2 w2 e2 h2 => ?_
  refine .call _ rfl E_ref01_Sign rfl (ref01_Sign_c ((up.ext e1.size).ext e2.size) h2 (zl hln hL)) fun v3 w3 e3 h3 => ?_
  subst h3
  refine .asg rfl rfl (.nil (.ret ?_))
  exact .plain [_] Tryz.results120 ⟨rfl, trivial⟩ ⟨(e1.trans e2).trans e3, isI (by rw [zval_zc])⟩

theorem E_ref02_Mul : Ent Tryz.prog 57 := ent_of Tryz.func57 (by kernel_rfl) rfl
theorem ref02_Mul_c {S : Nat → Prop} {w : World} {va vb : Value} {a b : QV} {L : Nat} (up : Up S w) (ha : eQ.R S w va a) (hb : eQ.R S w vb b) (hla : qok L a) (hlb : qok L b) (h1 : 1 ≤ L) (hL : L ≤ 400000000) : CR Tryz.prog 57 #[va, vb] w (eQ.at S (qc (qval a * qval b))) := by
  obtain ⟨da1, da2⟩ := eQ_digs ha
  obtain ⟨db1, db2⟩ := eQ_digs hb
  have lna := pn_lt da1 hla
  have lda := pd_lt da2 hla h1
  have lnb := pn_lt db1 hlb
  have ldb := pd_lt db2 hlb h1
  have ppa := pd_pos a
  have ppb := pd_pos b
  have hpp := Int.mul_pos ppa ppb
  have hL9 : L ≤ 1000000000 := by omega
  obtain ⟨s, t, rfl, hs, ht⟩ := ha
  have ha : eQ.R S w (.agg #[.bool a.num.neg, s, .bool a.den.neg, t]) a := ⟨s, t, rfl, hs, ht⟩
  obtain ⟨s', t', rfl, hs', ht'⟩ := hb
  have hb : eQ.R S w (.agg #[.bool b.num.neg, s', .bool b.den.neg, t']) b := ⟨s', t', rfl, hs', ht'⟩
  refine enter Tryz.func57 rfl Tryz.ntmps57 rfl ?_
  refine .seq (.region (.box rfl rfl fun w1 b2 n1 => .box rfl rfl fun w2 b3 n2 => .alloc rfl zero_Q fun w3 b4 n3 => .nil ?_))
  obtain ⟨e1, k2, hb2, hs1⟩ := n1
  obtain ⟨e2, k3, hb3, hs2⟩ := n2
  obtain ⟨e3, k4, hb4, hs3⟩ := n3
  have x3 := (e1.trans e2).trans e3
  have k2 := (k2.ext e2).ext e3
  have k3 := k3.ext e3
  have hS4 : ¬ Sx S w.heap.size w3.heap.size b4 := Sx.no (by omega) (by omega)
  have up3 : Up (Sx S w.heap.size w3.heap.size) w3 := Sx.up up (Nat.le_refl _) x3.size
  have ha3 := (ER.par eQ ha w3.heap.size).ext x3
  have hb3' := (ER.par eQ hb w3.heap.size).ext x3
  have hout : ∀ {W : World} {v : Value} {z : QV}, eQ.R (Sx S w.heap.size w3.heap.size) W v z → eQ.R S W v z := fun h => h.out
  generalize hT : Sx S w.heap.size w3.heap.size = T at *
  refine .seq ?_
  refine .par follows 11 [.inl _, .inr (eZ.at T (zc (pn a))), .inl _, .inr (eZ.at T (zc (pn b))), .inr (eZ.at T (zc (zval (zc (pn a)) * zval (zc (pn b))))), .inl _, .inr (eZ.at T (zc (pd a))), .inl _, .inr (eZ.at T (zc (pd b))), .inr (eZ.at T (zc (zval (zc (pd a)) * zval (zc (pd b))))),
      .inr (eQ.at T (qc (Rat.divInt (zval (zc (zval (zc (pn a)) * zval (zc (pn b))))) (zval (zc (zval (zc (pd a)) * zval (zc (pd b))))))))]
      [[], [(5, 0)], [], [(7, 2)], [(6, 1), (8, 3)], [], [(10, 5)], [], [(12, 7)], [(11, 6), (13, 8)], [(9, 4), (14, 9)]] (by kernel_rfl) ⟨
    fun w e => (v_ldA ty_Q rfl (k2.ext e) rfl).ob, fun w e => (g_call _ E_ref02_num rfl (ref02_num_c (up3.ext e.size) (ER.ext eQ ha3 e) hla hL9)).ob (st_at _ _ _),
    fun w e => (v_ldA ty_Q rfl (k3.ext e) rfl).ob, fun w e => (g_call _ E_ref02_num rfl (ref02_num_c (up3.ext e.size) (ER.ext eQ hb3' e) hlb hL9)).ob (st_at _ _ _),
    fun w e x hx y hy => (g_call _ E_ref01_Mul rfl (ref01_Mul_c (up3.ext e.size) hx hy (zl lna hL9) (zl lnb hL9))).ob (st_at _ _ _),
    fun w e => (v_ldA ty_Q rfl (k2.ext e) rfl).ob, fun w e => (g_call _ E_ref02_den rfl (ref02_den_c (up3.ext e.size) (ER.ext eQ ha3 e) hla hL9)).ob (st_at _ _ _),
    fun w e => (v_ldA ty_Q rfl (k3.ext e) rfl).ob, fun w e => (g_call _ E_ref02_den rfl (ref02_den_c (up3.ext e.size) (ER.ext eQ hb3' e) hlb hL9)).ob (st_at _ _ _),
    fun w e x hx y hy => (g_call _ E_ref01_Mul rfl (ref01_Mul_c (up3.ext e.size) hx hy (zl lda hL9) (zl ldb hL9))).ob (st_at _ _ _),
    fun w e x hx y hy => (g_call _ E_ref02_over rfl (ref02_over_c (up3.ext e.size) hx hy (zl (by rw [zval_zc, zval_zc]; exact pow_mulz lna lnb) (Nat.le_refl _)) (zl (by rw [zval_zc, zval_zc]; exact pow_mulz lda ldb) (Nat.le_refl _)) (by omega) (by rw [zval_zc, zval_zc, zval_zc]; exact hpp))).ob (st_at _ _ _), trivial⟩ ?_
  intro w4 e4 x1 _ x2 _ x3' _ x4 _ x5 _ x6 _ z hz
  rw [zval_zc, zval_zc, zval_zc, zval_zc, zval_zc, zval_zc, ← Rat.divInt_mul_divInt] at hz
  refine .storeA (E := eQ) ty_Q rfl rfl (k4.ext e4) rfl rfl hz hS4 fun w5 k5 u5 h5 => .nil (.ret ?_)
  exact .cell Tryz.results57 rfl ty_Q rfl rfl k5 h5 ⟨u5.below (x3.trans e4) (by omega), hout h5⟩

theorem E_ref02_Add : Ent Tryz.prog 56 := ent_of Tryz.func56 (by kernel_rfl) rfl
theorem ref02_Add_c {S : Nat → Prop} {w : World} {va vb : Value} {a b : QV} {L : Nat} (up : Up S w) (ha : eQ.R S w va a) (hb : eQ.R S w vb b) (hla : qok L a) (hlb : qok L b) (h1 : 1 ≤ L) (hL : L ≤ 400000000) : CR Tryz.prog 56 #[va, vb] w (eQ.at S (qc (qval a + qval b))) := by
  obtain ⟨da1, da2⟩ := eQ_digs ha
  obtain ⟨db1, db2⟩ := eQ_digs hb
  have lna := pn_lt da1 hla
  have lda := pd_lt da2 hla h1
  have lnb := pn_lt db1 hlb
  have ldb := pd_lt db2 hlb h1
  have ppa := pd_pos a
  have ppb := pd_pos b
  have hpp := Int.mul_pos ppa ppb
  have hL9 : L ≤ 1000000000 := by omega
  obtain ⟨s, t, rfl, hs, ht⟩ := ha
  have ha : eQ.R S w (.agg #[.bool a.num.neg, s, .bool a.den.neg, t]) a := ⟨s, t, rfl, hs, ht⟩
  obtain ⟨s', t', rfl, hs', ht'⟩ := hb
  have hb : eQ.R S w (.agg #[.bool b.num.neg, s', .bool b.den.neg, t']) b := ⟨s', t', rfl, hs', ht'⟩
  refine enter Tryz.func56 rfl Tryz.ntmps56 rfl ?_
  refine .seq (.region (.box rfl rfl fun w1 b2 n1 => .box rfl rfl fun w2 b3 n2 => .alloc rfl zero_Q fun w3 b4 n3 => .nil ?_))
  obtain ⟨e1, k2, hb2, hs1⟩ := n1
  obtain ⟨e2, k3, hb3, hs2⟩ := n2
  obtain ⟨e3, k4, hb4, hs3⟩ := n3
  have x3 := (e1.trans e2).trans e3
  have k2 := (k2.ext e2).ext e3
  have k3 := k3.ext e3
  have hS4 : ¬ Sx S w.heap.size w3.heap.size b4 := Sx.no (by omega) (by omega)
  have up3 : Up (Sx S w.heap.size w3.heap.size) w3 := Sx.up up (Nat.le_refl _) x3.size
  have ha3 := (ER.par eQ ha w3.heap.size).ext x3
  have hb3' := (ER.par eQ hb w3.heap.size).ext x3
  have hout : ∀ {W : World} {v : Value} {z : QV}, eQ.R (Sx S w.heap.size w3.heap.size) W v z → eQ.R S W v z := fun h => h.out
  generalize hT : Sx S w.heap.size w3.heap.size = T at *
  refine .seq ?_
  refine .parF follows 12 [.inl _, .inr (eZ.at T (zc (pn a))), .inl _, .inr (eZ.at T (zc (pd b))), .inr (eZ.at T (zc (zval (zc (pn a)) * zval (zc (pd b))))), .inl _, .inr (eZ.at T (zc (pn b))), .inl _, .inr (eZ.at T (zc (pd a))), .inr (eZ.at T (zc (zval (zc (pn b)) * zval (zc (pd a))))),
      .inr (NewP w3.heap.size 26 #[.bool false, .slice none 0 0]), .inr (NewP w3.heap.size 26 #[.bool false, .slice none 0 0])]
      [[], [(7, 0)], [], [(9, 2)], [(8, 1), (10, 3)], [], [(12, 5)], [], [(14, 7)], [(13, 6), (15, 8)], [], []] (by kernel_rfl) ⟨
    fun w e => (v_ldA ty_Q rfl (k2.ext e) rfl).ob, fun w e => (g_call _ E_ref02_num rfl (ref02_num_c (up3.ext e.size) (ER.ext eQ ha3 e) hla hL9)).ob (st_at _ _ _),
    fun w e => (v_ldA ty_Q rfl (k3.ext e) rfl).ob, fun w e => (g_call _ E_ref02_den rfl (ref02_den_c (up3.ext e.size) (ER.ext eQ hb3' e) hlb hL9)).ob (st_at _ _ _),
    fun w e x hx y hy => (g_call _ E_ref01_Mul rfl (ref01_Mul_c (up3.ext e.size) hx hy (zl lna hL9) (zl ldb hL9))).ob (st_at _ _ _),
    fun w e => (v_ldA ty_Q rfl (k3.ext e) rfl).ob, fun w e => (g_call _ E_ref02_num rfl (ref02_num_c (up3.ext e.size) (ER.ext eQ hb3' e) hlb hL9)).ob (st_at _ _ _),
    fun w e => (v_ldA ty_Q rfl (k2.ext e) rfl).ob, fun w e => (g_call _ E_ref02_den rfl (ref02_den_c (up3.ext e.size) (ER.ext eQ ha3 e) hla hL9)).ob (st_at _ _ _),
    fun w e x hx y hy => (g_call _ E_ref01_Mul rfl (ref01_Mul_c (up3.ext e.size) hx hy (zl lnb hL9) (zl lda hL9))).ob (st_at _ _ _),
    fun w e => ob_alloc zero_Z e.size, fun w e => ob_alloc zero_Z e.size, trivial⟩
    ⟨fun h => (by cases h), fun h => (by cases h), fun h => (by cases h), fun h => (by cases h), fun h => (by cases h), fun h => (by cases h), fun h => (by cases h), fun h => (by cases h), fun h => (by cases h), fun h => (by cases h),
     fun _ => ⟨_, _, _, rfl, rfl, zero_Z, rfl, Nat.le_refl _⟩, fun _ => ⟨_, _, _, rfl, rfl, zero_Z, rfl, Nat.le_refl _⟩, trivial⟩ ?_
  rintro w4 e4 x1 - x2 - v11 h11 x4 - x5 - v16 h16 _ ⟨b5, rfl, hb5, k5⟩ _ ⟨b6, rfl, hb6, k6⟩ hA
  have hne : b6 ≠ b5 := by
    intro e
    subst e
    exact hA 5 6 _ _ (by decide) ⟨_, List.mem_of_getElem? (i := 10) rfl, rfl, rfl⟩ ⟨_, List.mem_of_getElem? (i := 11) rfl, rfl, rfl⟩ rfl rfl rfl
  rw [zval_zc, zval_zc] at h11 h16
  have h16' := eZ_sep (eZ_sep h16 k5 zero_sep) k6 zero_sep
  have h11' := eZ_sep (eZ_sep h11 k5 zero_sep) k6 zero_sep
  refine .storeA (E := eZ) ty_Z rfl rfl k5 rfl rfl h11' (fun h => h.1.2 rfl) fun w5 k5 u5 h11 => ?_
  refine .storeA (E := eZ) ty_Z rfl rfl (k6.upd u5 hne) rfl rfl (ER.upd eZ h16' u5 (fun h => h.1.2 rfl)) (fun h => h.2 rfl) fun w6 k6 u6 h16 => .nil ?_
  have h11 := ER.upd eZ h11 u6 (fun h => h.2 rfl)
  have k5 := k5.upd u6 (Ne.symm hne)
  have e36 : Ext w3 w6 := u6.below (u5.below e4 hb5) hb6
  have x6 := x3.trans e36
  have k2 := k2.ext e36
  have k3 := k3.ext e36
  have k4 := k4.ext e36
  have up6 := up3.ext e36.size
  have ha6 := ER.ext eQ ha3 e36
  have hb6' := ER.ext eQ hb3' e36
  have h11 : eZ.R T w6 v11 (zc (pn a * pd b)) := ER.mono eZ (fun _ _ h => h.1.1) h11
  have h16 : eZ.R T w6 v16 (zc (pn b * pd a)) := ER.mono eZ (fun _ _ h => h.1.1) h16
  obtain ⟨s11, rfl, hs11⟩ := h11
  have h11 : eZ.R T w6 (.agg #[.bool (zc (pn a * pd b)).neg, s11]) (zc (pn a * pd b)) := ⟨s11, rfl, hs11⟩
  obtain ⟨s16, rfl, hs16⟩ := h16
  have h16 : eZ.R T w6 (.agg #[.bool (zc (pn b * pd a)).neg, s16]) (zc (pn b * pd a)) := ⟨s16, rfl, hs16⟩
  refine .seq ?_
  have m1 := pow_mulz lna ldb
  have m2 := pow_mulz lnb lda
  have m3 := pow_mulz lda ldb
  have m4 := pow_addz m1 m2
  have m5 : 4294967296 ^ (L + L) ≤ 4294967296 ^ (L + L + 1) := Nat.pow_le_pow_right (by decide) (by omega)
  refine .par follows 9 [.inl (.agg #[.bool (zc (pn a * pd b)).neg, s11]), .inl (.agg #[.bool (zc (pn b * pd a)).neg, s16]), .inr (eZ.at T (zc (zval (zc (pn a * pd b)) + zval (zc (pn b * pd a))))), .inl _, .inr (eZ.at T (zc (pd a))), .inl _, .inr (eZ.at T (zc (pd b))), .inr (eZ.at T (zc (zval (zc (pd a)) * zval (zc (pd b))))),
      .inr (eQ.at T (qc (Rat.divInt (zval (zc (zval (zc (pn a * pd b)) + zval (zc (pn b * pd a))))) (zval (zc (zval (zc (pd a)) * zval (zc (pd b))))))))]
      [[], [], [(17, 0), (18, 1)], [], [(20, 3)], [], [(22, 5)], [(21, 4), (23, 6)], [(19, 2), (24, 7)]] (by kernel_rfl) ⟨
    fun w e => (v_ldA ty_Z rfl (k5.ext e) rfl).ob, fun w e => (v_ldA ty_Z rfl (k6.ext e) rfl).ob,
    fun w e => (g_call _ E_ref01_Add rfl (ref01_Add_c (up6.ext e.size) (ER.ext eZ h11 e) (ER.ext eZ h16 e) (zl m1 (by omega)) (zl m2 (by omega)))).ob (st_at _ _ _),
    fun w e => (v_ldA ty_Q rfl (k2.ext e) rfl).ob, fun w e => (g_call _ E_ref02_den rfl (ref02_den_c (up6.ext e.size) (ER.ext eQ ha6 e) hla hL9)).ob (st_at _ _ _),
    fun w e => (v_ldA ty_Q rfl (k3.ext e) rfl).ob, fun w e => (g_call _ E_ref02_den rfl (ref02_den_c (up6.ext e.size) (ER.ext eQ hb6' e) hlb hL9)).ob (st_at _ _ _),
    fun w e x hx y hy => (g_call _ E_ref01_Mul rfl (ref01_Mul_c (up6.ext e.size) hx hy (zl lda hL9) (zl ldb hL9))).ob (st_at _ _ _),
    fun w e x hx y hy => (g_call _ E_ref02_over rfl (ref02_over_c (L := L + L + 1) (up6.ext e.size) hx hy (zl (by rw [zval_zc, zval_zc]; exact m4) (Nat.le_refl _)) (zl (by rw [zval_zc, zval_zc]; exact m3) (by omega)) (by omega) (by rw [zval_zc, zval_zc, zval_zc]; exact hpp))).ob (st_at _ _ _), trivial⟩ ?_
  intro w7 e7 x1 _ x2 _ x3' _ x4 _ z hz
  rw [zval_zc, zval_zc, zval_zc, zval_zc, zval_zc, zval_zc, ← Rat.divInt_add_divInt _ _ (by omega) (by omega)] at hz
  refine .storeA (E := eQ) ty_Q rfl rfl (k4.ext e7) rfl rfl hz hS4 fun w8 k8 u8 h8 => .nil (.ret ?_)
  exact .cell Tryz.results56 rfl ty_Q rfl rfl k8 h8 ⟨u8.below (x6.trans e7) (by omega), hout h8⟩
end Go.Proofs.YtgghedhmjhaieaaGreat

namespace Go.Kx
open Go Go.RowKit
/-- a new row of one element, among others -/
@[reducible] def NewE {α : Type} (E : ER α) (T : Nat → Prop) (B : Nat) (t : TypeId) (n : α) : Value → World → Prop := fun v W => ∃ b e, v = .slice (some ⟨b, 0, none⟩) 1 1 ∧ B ≤ b ∧ Blk W b t e.cells ∧ E.R T W e n
theorem ob_bslE {P : Program} {σ : Env} {w : World} {d : Option Tmp} {ty : TypeId} {pos : String} {af : Array Edge} {g : Option (Nat × Bool)} {α : Type} {E : ER α} {T : Nat → Prop} {n : α} {t te : TypeId} {B : Nat} {ps : List (Nat × Operand)} {x : Value} (hv : evp σ ps = some [(0, x)]) (hc : bslOf P t 1 [(0, x)] = some (te, x.cells)) (hx : E.R T w x n) (hB : B ≤ w.heap.size) :
    Gv P ⟨d, .buildSlice t 1 ps.toArray, ty, pos, af, g⟩ σ w fun v' w' => Ext w w' ∧ Sp.ok (.inr (NewE E T B te n)) v' w' :=
  (g_bsl _ hv hc).mono fun v' w' ⟨b, hv, hn⟩ => ⟨hn.1, fun w'' e => ⟨b, x, hv, by have := hn.2.2.1; omega, hn.2.1.ext e, E.ext (E.ext hx hn.1) e⟩⟩
def atI (a : List QV) (i : Int) : QV := if i < 0 then q0 else a.getD i.toNat q0
theorem atI_nat (a : List QV) (i : Nat) : atI a i = a.getD i q0 := by
  unfold atI; rw [if_neg (by omega)]; simp
end Go.Kx
namespace Go.Proofs.YtgghedhmjhaieaaGreat
open Go Go.Kx Go.RowKit

theorem E_ref02_Sub : Ent Tryz.prog 121 := ent_of Tryz.func121 (by kernel_rfl) rfl
theorem ref02_Sub_c {S : Nat → Prop} {w : World} {va vb : Value} {a b : QV} {L : Nat} (up : Up S w) (ha : eQ.R S w va a) (hb : eQ.R S w vb b) (hla : qok L a) (hlb : qk L b) (h1 : 1 ≤ L) (hL : L ≤ 400000000) : CR Tryz.prog 121 #[va, vb] w (eQ.at S (qc (qval a - qval b))) := by
  obtain ⟨s, t, rfl, hs, ht⟩ := ha
  have ha : eQ.R S w (.agg #[.bool a.num.neg, s, .bool a.den.neg, t]) a := ⟨s, t, rfl, hs, ht⟩
  obtain ⟨s', t', rfl, hs', ht'⟩ := hb
  have hb : eQ.R S w (.agg #[.bool b.num.neg, s', .bool b.den.neg, t']) b := ⟨s', t', rfl, hs', ht'⟩
  refine enter Tryz.func121 rfl Tryz.ntmps121 rfl ?_
  refine .seq (.region (.box rfl rfl fun w1 b2 n1 => .box rfl rfl fun w2 b3 n2 => .alloc rfl zero_Q fun w3 b4 n3 => .nil ?_))
  obtain ⟨e1, k2, hb2, hs1⟩ := n1
  obtain ⟨e2, k3, hb3, hs2⟩ := n2
  obtain ⟨e3, k4, hb4, hs3⟩ := n3
  have x3 := (e1.trans e2).trans e3
  have k2 := (k2.ext e2).ext e3
  have k3 := k3.ext e3
  have hS4 : ¬ Sx S w.heap.size w3.heap.size b4 := Sx.no (by omega) (by omega)
  have up3 : Up (Sx S w.heap.size w3.heap.size) w3 := Sx.up up (Nat.le_refl _) x3.size
  have ha3 := (ER.par eQ ha w3.heap.size).ext x3
  have hb3' := (ER.par eQ hb w3.heap.size).ext x3
  have hout : ∀ {W : World} {v : Value} {z : QV}, eQ.R (Sx S w.heap.size w3.heap.size) W v z → eQ.R S W v z := fun h => h.out
  generalize hT : Sx S w.heap.size w3.heap.size = T at *
  refine .seq ?_
  refine .par follows 4 [.inl (.agg #[.bool a.num.neg, s, .bool a.den.neg, t]), .inl (.agg #[.bool b.num.neg, s', .bool b.den.neg, t']), .inr (eQ.at T (qc (-qval b))), .inr (eQ.at T (qc (qval a + qval (qc (-qval b)))))] [[], [], [(6, 1)], [(5, 0), (7, 2)]] (by kernel_rfl) ⟨
    fun w e => (v_ldA ty_Q rfl (k2.ext e) rfl).ob, fun w e => (v_ldA ty_Q rfl (k3.ext e) rfl).ob,
    fun w e => (g_call _ E_ref02_Neg rfl (ref02_Neg_c (up3.ext e.size) (ER.ext eQ hb3' e) hlb.1 h1 (by omega))).ob (st_at _ _ _),
    fun w e x hx => (g_call _ E_ref02_Add rfl (ref02_Add_c (up3.ext e.size) (ER.ext eQ ha3 e) hx hla (Rsz.toOk hlb.2.neg) h1 hL)).ob (st_at _ _ _), trivial⟩ ?_
  intro w4 e4 x _ z hz
  rw [qval_qc, ← Rat.sub_eq_add_neg] at hz
  refine .storeA (E := eQ) ty_Q rfl rfl (k4.ext e4) rfl rfl hz hS4 fun w5 k5 u5 h5 => .nil (.ret ?_)
  exact .cell Tryz.results121 rfl ty_Q rfl rfl k5 h5 ⟨u5.below (x3.trans e4) (by omega), hout h5⟩

theorem E_ref02_Cmp : Ent Tryz.prog 94 := ent_of Tryz.func94 (by kernel_rfl) rfl
theorem ref02_Cmp_c {S : Nat → Prop} {w : World} {va vb : Value} {a b : QV} {L : Nat} (up : Up S w) (ha : eQ.R S w va a) (hb : eQ.R S w vb b) (hla : qk L a) (hlb : qk L b) (h1 : 1 ≤ L) (hL : L ≤ 100000000) : CR Tryz.prog 94 #[va, vb] w (Is (.int .i64 (sgnR (qval a - qval b)))) := by
  obtain ⟨s, t, rfl, hs, ht⟩ := ha
  have ha : eQ.R S w (.agg #[.bool a.num.neg, s, .bool a.den.neg, t]) a := ⟨s, t, rfl, hs, ht⟩
  obtain ⟨s', t', rfl, hs', ht'⟩ := hb
  have hb : eQ.R S w (.agg #[.bool b.num.neg, s', .bool b.den.neg, t']) b := ⟨s', t', rfl, hs', ht'⟩
  refine enter Tryz.func94 rfl Tryz.ntmps94 rfl ?_
  refine .seq (.region (.box rfl rfl fun w1 b2 n1 => .box rfl rfl fun w2 b3 n2 => .asg rfl rfl (.nil ?_)))
  obtain ⟨e1, k2, hb2, hs1⟩ := n1
  obtain ⟨e2, k3, hb3, hs2⟩ := n2
  have x2 := e1.trans e2
  have up2 := up.ext x2.size
  refine .seq (.region (.ldA ty_Q rfl rfl (k2.ext e2) rfl (.ldA ty_Q rfl rfl k3 rfl ?_)))
  refine .call _ rfl E_ref02_Sub rfl (ref02_Sub_c up2 (ER.ext eQ ha x2) (ER.ext eQ hb x2) hla.1 hlb h1 (by omega)) fun v3 w3 e3 h3 => ?_
  have hr : Rsz (qval a - qval b) (L + L + 1) := by rw [Rat.sub_eq_add_neg]; exact hla.2.add hlb.2.neg
  refine .call _ rfl E_ref02_Sign rfl (ref02_Sign_c (up2.ext e3.size) h3 hr.toOk (by omega)) fun v4 w4 e4 h4 => ?_
  subst h4
  refine .asg rfl rfl (.nil (.ret ?_))
  exact .plain [_] Tryz.results94 ⟨rfl, trivial⟩ ⟨(x2.trans e3).trans e4, isI (by rw [pn_qc]; rfl)⟩

theorem E_ref03_At : Ent Tryz.prog 58 := ent_of Tryz.func58 (by kernel_rfl) rfl
theorem ref03_At_c {S : Nat → Prop} {w : World} {v : Value} {a : List QV} {i : Int} (h : eV.R S w v a) : CR Tryz.prog 58 #[v, .int .i64 i] w (eQ.at S (atI a i)) := by
  refine enter Tryz.func58 rfl Tryz.ntmps58 rfl ?_
  refine .seq (.region (.alloc rfl zero_Q fun w1 b4 n1 => .nil ?_))
  obtain ⟨e1, k4, hb4, hs1⟩ := n1
  have hS4 : ¬ Sx S w.heap.size w1.heap.size b4 := Sx.no (by omega) (by omega)
  have h1 := (ER.par eV h w1.heap.size).ext e1
  refine .seq (.seq (.region (.mv rfl rfl ?_)))
  by_cases h0 : 0 ≤ i
  · refine .geqT rfl rfl rfl h0 (.mv rfl rfl (.gr rfl rfl rfl rfl (.mv rfl rfl (.gr rfl rfl rfl rfl (.mv rfl rfl (.gr rfl rfl rfl rfl (.lenR un_V rfl rfl h1 (.gr rfl rfl rfl rfl ?_))))))))
    by_cases hl : i < a.length
    · refine .lssT rfl rfl rfl hl (.pick rfl rfl rfl (.nil (.condT rfl (.seq (.region (.mv rfl rfl (.mv rfl rfl ?_)))))))
      obtain ⟨j, rfl⟩ : ∃ j : Nat, i = j := ⟨i.toNat, by omega⟩
      refine .ixN (i := j) un_V ty_Q rfl rfl h1 rfl (getD_get' (z := q0) (by omega)) fun p hp => .ldE ty_Q rfl rfl hp fun e he => ?_
      refine .storeA (E := eQ) ty_Q rfl rfl k4 rfl rfl he hS4 fun w5 k5 u5 h5 => .nil (.ret ?_)
      exact .cell Tryz.results58 rfl ty_Q rfl rfl k5 h5 ⟨u5.below e1 (by omega), by rw [atI_nat]; exact h5.out⟩
    · refine .lssF rfl rfl rfl hl (.pick rfl rfl rfl (.nil (.condF rfl (.skip (.seq (.region (.bld [] rfl rfl bld_Q0 ?_)))))))
      have hq : eQ.R (Sx S w.heap.size w1.heap.size) w1 (.agg #[.bool false, .slice none 0 0, .bool false, .slice none 0 0]) q0 := ⟨_, _, rfl, RL.nil, RL.nil⟩
      refine .storeA (E := eQ) ty_Q rfl rfl k4 rfl rfl hq hS4 fun w5 k5 u5 h5 => .nil (.ret ?_)
      refine .cell Tryz.results58 rfl ty_Q rfl rfl k5 h5 ⟨u5.below e1 (by omega), ?_⟩
      rw [show atI a i = q0 by unfold atI; rw [if_neg (by omega), List.getD_eq_getElem?_getD, List.getElem?_eq_none (by omega)]; rfl]
      exact h5.out
  · refine .geqF rfl rfl rfl h0 (.mv rfl rfl (.gs rfl rfl rfl rfl rfl (.gs rfl rfl rfl rfl rfl (.gs rfl rfl rfl rfl rfl (.gs rfl rfl rfl rfl rfl (.pick rfl rfl rfl (.nil (.condF rfl (.skip (.seq (.region (.bld [] rfl rfl bld_Q0 ?_)))))))))))) 
    have hq : eQ.R (Sx S w.heap.size w1.heap.size) w1 (.agg #[.bool false, .slice none 0 0, .bool false, .slice none 0 0]) q0 := ⟨_, _, rfl, RL.nil, RL.nil⟩
    refine .storeA (E := eQ) ty_Q rfl rfl k4 rfl rfl hq hS4 fun w5 k5 u5 h5 => .nil (.ret ?_)
    refine .cell Tryz.results58 rfl ty_Q rfl rfl k5 h5 ⟨u5.below e1 (by omega), ?_⟩
    rw [show atI a i = q0 by unfold atI; rw [if_pos (by omega)]]
    exact h5.out
end Go.Proofs.YtgghedhmjhaieaaGreat

namespace Go.Proofs.YtgghedhmjhaieaaGreat
open Go Go.Kx Go.RowKit

theorem bslE_V {x y z u : Value} : bslOf Tryz.prog 23 1 [(0, .agg #[x, y, z, u])] = some (28, (Value.agg #[x, y, z, u]).cells) := by kernel_rfl

theorem E_ref03_Combine : Ent Tryz.prog 78 := ent_of Tryz.func78 (by kernel_rfl) rfl
theorem ref03_Combine_c {S : Nat → Prop} {w : World} {vk_ va vb : Value} {k : QV} {a b : List QV} {L : Nat} (up : Up S w) (hk : eQ.R S w vk_ k) (ha : eV.R S w va a) (hb : eV.R S w vb b) (hkk : qk L k) (hka : vk L a) (hkb : vk L b) (hL : 1 ≤ L) (hL2 : L ≤ 100000000) (hla : a.length ≤ 100000000) (hlb : b.length ≤ 100000000) :
    CR Tryz.prog 78 #[vk_, va, vb] w (eV.at S (tab (max a.length b.length) fun i => qval k * rv a i + rv b i)) := by
  obtain ⟨s, t, rfl, hs, ht⟩ := hk
  have hk : eQ.R S w (.agg #[.bool k.num.neg, s, .bool k.den.neg, t]) k := ⟨s, t, rfl, hs, ht⟩
  refine enter Tryz.func78 rfl Tryz.ntmps78 rfl ?_
  refine .seq (.region (.box rfl rfl fun w1 b3 n1 => .asg rfl rfl (.nil (.seq (.region (.asg rfl rfl (.nil (.seq (.seq (.region (.asg rfl rfl (.nil ?_)))))))))))) 
  obtain ⟨e1, k3, hb3, hs1⟩ := n1
  have hB1 : ∀ {W : World}, Ext w1 W → Kp (fun k => S k ∧ k < w1.heap.size) w1 W := fun hB k c t f hk h => (hB.block k hk.2).trans h
  have hK : ∀ {W : World}, Ext w1 W → eQ.R (fun k => S k ∧ k < w1.heap.size) W (.agg #[.bool k.num.neg, s, .bool k.den.neg, t]) k := fun hB => eQ.keep (hB1 hB) (ER.lt eQ (ER.ext eQ hk e1))
  have hA : ∀ {W : World}, Ext w1 W → eV.R (fun k => S k ∧ k < w1.heap.size) W va a := fun hB => eV.keep (hB1 hB) (ER.lt eV (ER.ext eV ha e1))
  have hBb : ∀ {W : World}, Ext w1 W → eV.R (fun k => S k ∧ k < w1.heap.size) W vb b := fun hB => eV.keep (hB1 hB) (ER.lt eV (ER.ext eV hb e1))
  have up1 := up.ext e1.size
  generalize hf : (fun i => qc (qval k * rv a i + rv b i)) = f
  generalize hM : max a.length b.length = M
  refine .block (.loop (α := Nat × Value) (fun x => [(1, va), (2, vb), (3, .pointer (some ⟨b3, 0, none⟩)), (7, x.2), (8, .int .i64 (x.1 : Nat))]) (fun x W => Ext w1 W ∧ x.1 ≤ M ∧ OwnL eQ 28 w1.heap.size S W x.2 ((List.range x.1).map f)) (fun x => M - x.1) (0, .slice none 0 0) ?_ ?_ ?_)
  · exact look_cons rfl (look_cons rfl (look_cons rfl (look_cons rfl (look_cons rfl look_nil))))
  · exact ⟨Ext.refl _, Nat.zero_le _, OwnL.nil⟩
  · rintro ⟨i, u⟩ W ⟨hB, hi, ho⟩
    replace hB : Ext w1 W := hB
    replace hi : i ≤ M := hi
    replace ho : OwnL eQ 28 w1.heap.size S W u ((List.range i).map f) := ho
    refine .weak [(1, va), (2, vb), (3, .pointer (some ⟨b3, 0, none⟩)), (7, u), (8, .int .i64 (i : Nat))] (fun t v h => h) ?_
    have hsz := hB.size
    have fin : i = M → Ext w W ∧ eV.at S (tab M fun i => qval k * rv a i + rv b i) u W := by
      intro h
      subst h
      refine ⟨e1.trans hB, ?_⟩
      unfold tab
      rw [hf]
      exact ho.toR (fun k hk => up1 k hk) (fun _ h => h)
    refine .mid (α := Unit) (fun _ => [(1, va), (2, vb), (3, .pointer (some ⟨b3, 0, none⟩)), (7, u), (8, .int .i64 (i : Nat))]) (fun _ W' => W' = W ∧ i < M) ?_ ?_
    · refine .seq (.region (.mv rfl rfl (.mv rfl rfl (.lenR un_V rfl rfl (hA hB) ?_))))
      by_cases h1 : i < a.length
      · refine .lssT rfl rfl rfl (by omega) (.mv rfl rfl (.gs rfl rfl rfl rfl rfl (.gs rfl rfl rfl rfl rfl (.gs rfl rfl rfl rfl rfl (.gs rfl rfl rfl rfl rfl (.pick rfl rfl rfl (.nil (.condT rfl (.skip ?_)))))))))
        exact ⟨rfl, (), look_cons rfl (look_cons rfl (look_cons rfl (look_cons rfl (look_cons rfl look_nil)))), rfl, by omega⟩
      · refine .lssF rfl rfl rfl (by omega) (.mv rfl rfl (.gr rfl rfl rfl rfl (.mv rfl rfl (.gr rfl rfl rfl rfl (.mv rfl rfl (.gr rfl rfl rfl rfl (.lenR un_V rfl rfl (hBb hB) (.gr rfl rfl rfl rfl ?_))))))))
        by_cases h2 : i < b.length
        · refine .lssT rfl rfl rfl (by omega) (.pick rfl rfl rfl (.nil (.condT rfl (.skip ?_))))
          exact ⟨rfl, (), look_cons rfl (look_cons rfl (look_cons rfl (look_cons rfl (look_cons rfl look_nil)))), rfl, by omega⟩
        · refine .lssF rfl rfl rfl (by omega) (.pick rfl rfl rfl (.nil (.condF rfl (.exit (.seq (.region (.mv rfl rfl (.asg rfl rfl (.nil (.ret ?_))))))))))
          exact .plain [_] Tryz.results78 ⟨rfl, trivial⟩ (fin (by omega))
    · rintro _ W' ⟨hWW, hlt⟩
      have hWW := hWW.symm
      subst hWW
      obtain ⟨es, ho1, ho2⟩ := id ho
      have hTu : ∀ k', S k' ∧ k' < w1.heap.size → S k' ∧ u.ownBlock ≠ some k' := fun k' hk' => ⟨hk'.1, fun h => by have := (ho1.lt k' h).1; have := hk'.2; omega⟩
      have hKT := eQ.mono (fun k' _ h => hTu k' h) (hK hB)
      have hAT := eV.mono (fun k' _ h => hTu k' h) (hA hB)
      have hBT := eV.mono (fun k' _ h => hTu k' h) (hBb hB)
      have upT : Up (fun k' => S k' ∧ u.ownBlock ≠ some k') W := fun k' hk' => ⟨up1 k' (by omega), fun h => by have := (ho1.lt k' h).2; omega⟩
      generalize hT : (fun k' => S k' ∧ u.ownBlock ≠ some k') = T at *
      have k3W := k3.ext hB
      have hai := (hka.get hL i).1
      have hbi := (hkb.get hL i).1
      have hm2 : Rsz (qval k * qval (atI a i)) (L + L) := by rw [atI_nat]; exact hkk.2.mul (hka.get hL i).2
      refine .seq (.block ?_)
      refine .par follows 11 [.inl u, .inl (.agg #[.bool k.num.neg, s, .bool k.den.neg, t]), .inl va, .inl (.int .i64 (i : Nat)), .inr (eQ.at T (atI a i)), .inr (eQ.at T (qc (qval k * qval (atI a i)))), .inl vb, .inl (.int .i64 (i : Nat)), .inr (eQ.at T (atI b i)), .inr (eQ.at T (qc (qval (qc (qval k * qval (atI a i))) + qval (atI b i)))), .inr (NewE eQ T W.heap.size 28 (qc (qval (qc (qval k * qval (atI a i))) + qval (atI b i))))]
          [[], [], [], [], [(23, 2), (24, 3)], [(22, 1), (25, 4)], [], [], [(27, 6), (28, 7)], [(26, 5), (29, 8)], [(30, 9)]] (by kernel_rfl) ⟨
        fun w e => (v_mv rfl).ob, fun w e => (v_ldA ty_Q rfl (k3W.ext e) rfl).ob, fun w e => (v_mv rfl).ob, fun w e => (v_mv rfl).ob,
        fun w e => (g_call _ E_ref03_At rfl (ref03_At_c (ER.ext eV hAT e))).ob (st_at _ _ _),
        fun w e x hx => (g_call _ E_ref02_Mul rfl (ref02_Mul_c (L := L) (upT.ext e.size) (ER.ext eQ hKT e) hx hkk.1 (by rw [atI_nat]; exact hai) hL (by omega))).ob (st_at _ _ _),
        fun w e => (v_mv rfl).ob, fun w e => (v_mv rfl).ob,
        fun w e => (g_call _ E_ref03_At rfl (ref03_At_c (ER.ext eV hBT e))).ob (st_at _ _ _),
        fun w e x hx y hy => (g_call _ E_ref02_Add rfl (ref02_Add_c (L := L + L) (upT.ext e.size) hx hy hm2.toOk (by rw [atI_nat]; exact hbi.mono (by omega)) (by omega) (by omega))).ob (st_at _ _ _),
        fun w e x hx => by
          obtain ⟨p1, p2, rfl, hp1, hp2⟩ := hx
          exact ob_bslE (E := eQ) (T := T) rfl bslE_V ⟨p1, p2, rfl, hp1, hp2⟩ e.size, trivial⟩ ?_
      rintro W2 e2 x1 - x2 - x3 - x4 - _ ⟨b5, e5, rfl, hb5, k5, h5⟩
      rw [qval_qc, atI_nat, atI_nat] at h5
      have hB2 := hB.trans e2
      subst hT
      refine .gv rfl rfl (g_appL (E := eQ) (base := w1.heap.size) (by decide) un_V info_Q rfl rfl rfl (ho.ext e2) k5 h5 (by simp; omega) (by decide) hB2.size) ?_
      rintro v4 W4 ⟨ho4, hg4⟩
      refine .asg rfl rfl (.nil (.region (.mv rfl rfl (.add rfl rfl rfl (.asg rfl rfl (.nil ?_))))))
      rw [wI (by omega)]
      refine ⟨rfl, (i + 1, v4), look_cons rfl (look_cons rfl (look_cons rfl (look_cons rfl (look_cons rfl look_nil)))), ⟨(ho.ext e2).below hg4 hB2 hB2.size, hlt, ?_⟩, by show M - (i + 1) < M - i; omega⟩
      show OwnL eQ 28 w1.heap.size S W4 v4 ((List.range (i + 1)).map f)
      rw [List.range_succ, List.map_append, ← hf]
      rw [← hf] at ho4
      exact ho4

theorem E_ref03_Add : Ent Tryz.prog 46 := ent_of Tryz.func46 (by kernel_rfl) rfl
theorem ref03_Add_c {S : Nat → Prop} {w : World} {va vb : Value} {a b : List QV} {L : Nat} (up : Up S w) (ha : eV.R S w va a) (hb : eV.R S w vb b) (hka : vk L a) (hkb : vk L b) (hL : 1 ≤ L) (hL2 : L ≤ 100000000) (hla : a.length ≤ 100000000) (hlb : b.length ≤ 100000000) :
    CR Tryz.prog 46 #[va, vb] w (eV.at S (tab (max a.length b.length) fun i => rv a i + rv b i)) := by
  refine enter Tryz.func46 rfl Tryz.ntmps46 rfl ?_
  refine .seq (.region (.asg rfl rfl (.nil (.seq (.region ?_)))))
  refine .call _ rfl E_ref02_Int rfl (ref02_Int_c up (by decide) (by decide)) fun v1 w1 e1 h1 => .mv rfl rfl (.mv rfl rfl ?_)
  have h4 : 4294967296 ^ 1 ≤ 4294967296 ^ L := Nat.pow_le_pow_right (by decide) hL
  have hq : qk L (qc ((1 : Int) : Rat)) := qk_qc (Rsz.int 1 (by show 1 < _; omega) hL)
  refine .call _ rfl E_ref03_Combine rfl (ref03_Combine_c (up.ext e1.size) h1 (ER.ext eV ha e1) (ER.ext eV hb e1) hq hka hkb hL hL2 hla hlb) fun v2 w2 e2 h2 => .asg rfl rfl (.nil (.ret ?_))
  refine .plain [_] Tryz.results46 ⟨rfl, trivial⟩ ⟨e1.trans e2, ?_⟩
  have : (fun i => qval (qc ((1 : Int) : Rat)) * rv a i + rv b i) = fun i => rv a i + rv b i := by
    funext i; rw [qval_qc]; simp
  rw [this] at h2
  exact h2

theorem E_ref03_Scale : Ent Tryz.prog 49 := ent_of Tryz.func49 (by kernel_rfl) rfl
theorem ref03_Scale_c {S : Nat → Prop} {w : World} {vk_ va : Value} {k : QV} {a : List QV} {L : Nat} (up : Up S w) (hk : eQ.R S w vk_ k) (ha : eV.R S w va a) (hkk : qk L k) (hka : vk L a) (hL : 1 ≤ L) (hL2 : L ≤ 100000000) (hla : a.length ≤ 100000000) :
    CR Tryz.prog 49 #[vk_, va] w (eV.at S (tab a.length fun i => qval k * rv a i)) := by
  obtain ⟨s, t, rfl, hs, ht⟩ := hk
  have hk : eQ.R S w (.agg #[.bool k.num.neg, s, .bool k.den.neg, t]) k := ⟨s, t, rfl, hs, ht⟩
  refine enter Tryz.func49 rfl Tryz.ntmps49 rfl ?_
  refine .seq (.region (.box rfl rfl fun w1 b2 n1 => .asg rfl rfl (.nil ?_)))
  obtain ⟨e1, k2, hb2, hs1⟩ := n1
  refine .seq (.region (.ldA ty_Q rfl rfl k2 rfl (.mv rfl rfl ?_)))
  refine .call _ rfl E_ref03_Combine rfl (ref03_Combine_c (b := []) (up.ext e1.size) (ER.ext eQ hk e1) (ER.ext eV ha e1) RL.nil hkk hka vk_nil hL hL2 hla (by simp)) fun v2 w2 e2 h2 => .asg rfl rfl (.nil (.ret ?_))
  refine .plain [_] Tryz.results49 ⟨rfl, trivial⟩ ⟨e1.trans e2, ?_⟩
  have : (fun i => qval k * rv a i + rv [] i) = fun i => qval k * rv a i := by
    funext i; rw [rv_nil, Rat.add_zero]
  rw [this, show max a.length ([] : List QV).length = a.length by simp] at h2
  exact h2

theorem E_ref03_Dot : Ent Tryz.prog 53 := ent_of Tryz.func53 (by kernel_rfl) rfl
theorem ref03_Dot_c {S : Nat → Prop} {w : World} {va vb : Value} {a b : List QV} {L : Nat} (up : Up S w) (ha : eV.R S w va a) (hb : eV.R S w vb b) (hka : vk L a) (hkb : vk L b) (hL : 1 ≤ L) (hL2 : L ≤ 1000) (hla : a.length ≤ 10000) :
    CR Tryz.prog 53 #[va, vb] w (eQ.at S (qc (sumN a.length fun i => rv a i * rv b i))) := by
  refine enter Tryz.func53 rfl Tryz.ntmps53 rfl ?_
  refine .seq (.region (.alloc rfl zero_Q fun w1 b4 n1 => .nil (.seq (.region (.bld [] rfl rfl bld_Q0 (.alloc rfl zero_Q fun w2 b5 n2 => ?_))))))
  obtain ⟨e1, k4, hb4, hs1⟩ := n1
  obtain ⟨e2, k5, hb5, hs2⟩ := n2
  have x2 := e1.trans e2
  have k4 := k4.ext e2
  have hS4 : ¬ Sx S w.heap.size w2.heap.size b4 := Sx.no (by omega) (by omega)
  have hS5 : ¬ Sx S w.heap.size w2.heap.size b5 := Sx.no (by omega) (by omega)
  have hne : b4 ≠ b5 := by omega
  have up2 : Up (Sx S w.heap.size w2.heap.size) w2 := Sx.up up (Nat.le_refl _) x2.size
  have ha2 := (ER.par eV ha w2.heap.size).ext x2
  have hb2' := (ER.par eV hb w2.heap.size).ext x2
  have hout : ∀ {W : World} {v : Value} {z : QV}, eQ.R (Sx S w.heap.size w2.heap.size) W v z → eQ.R S W v z := fun h => h.out
  generalize hT : Sx S w.heap.size w2.heap.size = T at *
  have hq : eQ.R T w2 (.agg #[.bool false, .slice none 0 0, .bool false, .slice none 0 0]) (qc 0) := by rw [qc_zero]; exact ⟨_, _, rfl, RL.nil, RL.nil⟩
  refine .storeA (E := eQ) ty_Q rfl rfl k5 rfl rfl hq hS5 fun w3 k5 u3 h3 => .nil ?_
  have k4 := k4.upd u3 hne
  have hB3 : Below w.heap.size w w3 := u3.below x2 (by omega)
  have ha3 := ER.upd eV ha2 u3 hS5
  have hb3' := ER.upd eV hb2' u3 hS5
  have up3 : Up T w3 := fun k hk => up2 k (by have := u3.size; omega)
  generalize hf : (fun i => rv a i * rv b i) = f
  refine .seq (.seq (.region (.asg rfl rfl (.nil ?_))))
  refine .block (.loop (α := Nat × Value) (fun x => [(0, va), (1, vb), (4, .pointer (some ⟨b4, 0, none⟩)), (5, .pointer (some ⟨b5, 0, none⟩)), (6, .int .i64 (x.1 : Nat))])
    (fun x W => Below w.heap.size w W ∧ Up T W ∧ x.1 ≤ a.length ∧ Blk W b4 28 (Value.agg #[.bool false, .slice none 0 0, .bool false, .slice none 0 0]).cells ∧ Blk W b5 28 x.2.cells ∧ eQ.R T W x.2 (qc (sumN x.1 f)) ∧ eV.R T W va a ∧ eV.R T W vb b) (fun x => a.length - x.1) (0, .agg #[.bool false, .slice none 0 0, .bool false, .slice none 0 0]) ?_ ?_ ?_)
  · exact look_cons rfl (look_cons rfl (look_cons rfl (look_cons rfl (look_cons rfl look_nil))))
  · exact ⟨hB3, up3, Nat.zero_le _, k4, k5, h3, ha3, hb3'⟩
  · rintro ⟨i, u⟩ W ⟨hB, upW, hi, k4, k5, hu, haW, hbW⟩
    replace hB : Below w.heap.size w W := hB
    replace hi : i ≤ a.length := hi
    replace k5 : Blk W b5 28 u.cells := k5
    replace hu : eQ.R T W u (qc (sumN i f)) := hu
    refine .weak [(0, va), (1, vb), (4, .pointer (some ⟨b4, 0, none⟩)), (5, .pointer (some ⟨b5, 0, none⟩)), (6, .int .i64 (i : Nat))] (fun t v h => h) ?_
    have hsz := hB.size
    obtain ⟨s, t, rfl, hs, ht⟩ := hu
    have hu : eQ.R T W (.agg #[.bool (qc (sumN i f)).num.neg, s, .bool (qc (sumN i f)).den.neg, t]) (qc (sumN i f)) := ⟨s, t, rfl, hs, ht⟩
    refine .seq (.seq (.region (.mv rfl rfl (.mv rfl rfl (.lenR un_V rfl rfl haW ?_)))))
    by_cases hlt : i < a.length
    · refine .lssT rfl rfl rfl (by omega) (.nil (.condT rfl (.skip (.seq (.block ?_)))))
      have hai := hka.get hL i
      have hbi := hkb.get hL i
      have hsum : Rsz (sumN i f) (1 + i * (L + L + 1)) := sumN_rsz fun k _ => by rw [← hf]; exact (hka.rsz hL k).mul (hkb.rsz hL k)
      have hbig : 1 + i * (L + L + 1) ≤ 100000000 := by
        have := Nat.mul_le_mul (show i ≤ 10000 by omega) (show L + L + 1 ≤ 2001 by omega)
        omega
      have hm2 : Rsz (qval (a.getD i q0) * qval (atI b i)) (L + L) := by rw [atI_nat]; exact hai.2.mul hbi.2
      have hge := getD_get' (l := a) (z := q0) hlt
      refine .par follows 10 [.inl (.agg #[.bool (qc (sumN i f)).num.neg, s, .bool (qc (sumN i f)).den.neg, t]), .inl va, .inl (.int .i64 (i : Nat)), .inr (Ptr eQ T (a.getD i q0)), .inr (eQ.at T (a.getD i q0)), .inl vb, .inl (.int .i64 (i : Nat)), .inr (eQ.at T (atI b i)), .inr (eQ.at T (qc (qval (a.getD i q0) * qval (atI b i)))), .inr (eQ.at T (qc (qval (qc (sumN i f)) + qval (qc (qval (a.getD i q0) * qval (atI b i))))))]
          [[], [], [], [(15, 1), (16, 2)], [(17, 3)], [], [], [(19, 5), (20, 6)], [(18, 4), (21, 7)], [(14, 0), (22, 8)]] (by kernel_rfl) ⟨
        fun w e => (v_ldA ty_Q rfl (k5.ext e) rfl).ob, fun w e => (v_mv rfl).ob, fun w e => (v_mv rfl).ob,
        fun w e => ob_ixN un_V ty_Q rfl (ER.ext eV haW e) rfl hge, fun w e x hx => ob_ldE ty_Q rfl hx,
        fun w e => (v_mv rfl).ob, fun w e => (v_mv rfl).ob,
        fun w e => (g_call _ E_ref03_At rfl (ref03_At_c (ER.ext eV hbW e))).ob (st_at _ _ _),
        fun w e x hx y hy => (g_call _ E_ref02_Mul rfl (ref02_Mul_c (L := L) (upW.ext e.size) hx hy hai.1 (by rw [atI_nat]; exact hbi.1) hL (by omega))).ob (st_at _ _ _),
        fun w e y hy => (g_call _ E_ref02_Add rfl (ref02_Add_c (L := 1 + i * (L + L + 1) + (L + L)) (upW.ext e.size) (ER.ext eQ hu e) hy (hsum.toOk.mono (by omega)) (hm2.toOk.mono (by omega)) (by omega) (by omega))).ob (st_at _ _ _), trivial⟩ ?_
      rintro W2 e2 x1 - x2 - x3 - x4 - z hz
      rw [qval_qc, qval_qc, atI_nat] at hz
      refine .storeA (E := eQ) ty_Q rfl rfl (k5.ext e2) rfl rfl hz hS5 fun W3 k5 u3 h3 => .nil ?_
      refine .region (.mv rfl rfl (.add rfl rfl rfl (.asg rfl rfl (.nil ?_))))
      rw [wI (by omega)]
      refine ⟨rfl, (i + 1, z), look_cons rfl (look_cons rfl (look_cons rfl (look_cons rfl (look_cons rfl look_nil)))), ⟨u3.below (hB.trans (e2.mono hsz)) (by omega), fun k hk => upW k (by have := u3.size; have := e2.size; omega), hlt, (k4.ext e2).upd u3 hne, k5, ?_, ER.upd eV (ER.ext eV haW e2) u3 hS5, ER.upd eV (ER.ext eV hbW e2) u3 hS5⟩, by show a.length - (i + 1) < a.length - i; omega⟩
      show eQ.R T W3 z (qc (sumN (i + 1) f))
      rw [show sumN (i + 1) f = sumN i f + rv a i * rv b i by rw [← hf]; rfl]
      exact h3
    · refine .lssF rfl rfl rfl (by omega) (.nil (.condF rfl (.exit (.seq (.region (.ldA ty_Q rfl rfl k5 rfl ?_))))))
      have : i = a.length := by omega
      subst this
      refine .storeA (E := eQ) ty_Q rfl rfl k4 rfl rfl hu hS4 fun W3 k3 u3 h3 => .nil (.ret ?_)
      exact .cell Tryz.results53 rfl ty_Q rfl rfl k3 h3 ⟨u3.below hB (by omega), hout h3⟩
end Go.Proofs.YtgghedhmjhaieaaGreat
