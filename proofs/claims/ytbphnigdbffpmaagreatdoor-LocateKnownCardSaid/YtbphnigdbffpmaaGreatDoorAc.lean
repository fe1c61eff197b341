/- It is proved that the law LocateKnown returns true, whatever the world it starts in, as long as the package variables that its row lists hold what the program's text gives them. Part 3 of 6. The last part holds the statement; this one a part of the way to it. -/
import Derived.Test.YtbphnigdbffpmaaGreatDoorProg
import Derived.Laws.Externs
import Derived.Lib.LaidTab
import Derived.Stop.LaidErr
import Derived.MakeChecks
import Derived.Test.YtbphnigdbffpmaaGreatDoorRows
import Derived.Test.YtbphnigdbffpmaaGreatDoorAb
set_option linter.unusedVariables false
set_option linter.unusedSimpArgs false
set_option exponentiation.threshold 1000
section
set_option linter.unusedVariables false
set_option linter.unusedSimpArgs false
namespace Go.AV
open Go Go.RowKit
section
variable {P : Program} {E : Env} {w0 : Base} {F : Fence} {n : Nat} {L : List LI} {M0 : List Nat} {outs : List (List Value)} {own : List Nat}
theorem ordered_iff {b : Array Nat} {i j : Nat} : ordered b i j = true ↔ (b.getD j 0).testBit i = true ∨ (b.getD i 0).testBit j = true := by
  simp [ordered]
theorem back_lt {ops : Array Oper} (h : backOk ops (Region.before ops) = true) {i j : Nat} (hj : j < ops.size) (hb : ((Region.before ops).getD j 0).testBit i = true) : i < j := by
  simp only [backOk, List.all_eq_true, List.mem_range] at h
  have h1 : (Region.before ops).getD j 0 < 2 ^ j := by simpa [Nat.blt_eq] using h j hj
  rcases Nat.lt_or_ge i j with hlt | hge
  · exact hlt
  · rw [Nat.testBit_lt_two_pow (Nat.lt_of_lt_of_le h1 (Nat.pow_le_pow_right (by omega) hge))] at hb
    simp at hb
theorem not_ordered {ops : Array Oper} (hback : backOk ops (Region.before ops) = true) {D : Nat → Bool} (hD : Closed ops D) {j : Nat} {o : Oper} (ho : ops[j]? = some o) (hj : D j = false)
    (hr : ∀ e ∈ o.after.toList, Region.binds .any e = true → D e.on = true) {k : Nat} (hk : k < ops.size) (hne : D k ≠ decide (k < j)) : ordered (Region.before ops) k j = false := by
  have hjn : j < ops.size := (Array.getElem?_eq_some_iff.1 ho).1
  cases hord : ordered (Region.before ops) k j with
  | false => rfl
  | true =>
    exfalso
    rcases ordered_iff.1 hord with h | h
    · have h1 := back_lt hback hjn h
      have h2 := closed_before hD j o ho hr k h
      rw [h2] at hne
      simp [h1] at hne
    · have h1 := back_lt hback hk h
      have h2 : D k = true := by
        cases hd : D k with
        | true => rfl
        | false => rw [hd] at hne; simp at hne; omega
      have hok : ∃ o', ops[k]? = some o' := ⟨_, Array.getElem?_eq_getElem hk⟩
      obtain ⟨o', ho'⟩ := hok
      have h3 := closed_before hD k o' ho' (fun e he hb => hD k o' ho' h2 e he hb) j h
      rw [hj] at h3
      simp at h3
theorem slots_dst {ops : Array Oper} {b : Array Nat} (h : slotsOk ops b = true) {i j : Nat} {oi oj : Oper} (hi : ops[i]? = some oi) (hj : ops[j]? = some oj) (hne : i ≠ j) {d : Nat} (hd : oi.dst = some d) :
    oj.dst ≠ some d ∧ ((usesOf ops oj).contains d = true → ordered b i j = true) := by
  have hi' := (Array.getElem?_eq_some_iff.1 hi).1
  have hj' := (Array.getElem?_eq_some_iff.1 hj).1
  simp only [slotsOk, List.all_eq_true, List.mem_range] at h
  have := h i hi'
  simp only [hi, Option.bind_some, hd, List.all_eq_true, List.mem_range, Bool.or_eq_true, beq_iff_eq] at this
  have := this j hj'
  simp only [hj, Bool.and_eq_true, bne_iff_ne, ne_eq, Bool.or_eq_true, Bool.not_eq_true'] at this
  rcases this with h | ⟨h1, h2⟩
  · exact absurd h hne
  · refine ⟨h1, fun hc => ?_⟩
    rcases h2 with h2 | h2
    · rw [hc] at h2; simp at h2
    · exact h2
theorem log_at {b : Array Nat} {l : List Log} (h : logOk b l = true) {i j : Nat} {x y : Log} (hx : l[i]? = some x) (hy : l[j]? = some y) (hne : i ≠ j) {e : Nat} (he : e ∈ x.tg) (hr : e ∈ y.rd ∨ e ∈ y.tg) : ordered b i j = true := by
  simp only [logOk, List.all_eq_true] at h
  have h1 := h (x, i) (by rw [List.mk_mem_zipIdx_iff_getElem?]; exact hx)
  simp only [List.all_eq_true] at h1
  have h2 := h1 (y, j) (by rw [List.mk_mem_zipIdx_iff_getElem?]; exact hy)
  simp only [Bool.or_eq_true, beq_iff_eq, List.all_eq_true, Bool.not_eq_true', Bool.or_eq_false_iff] at h2
  rcases h2 with h2 | h2
  · exact absurd h2 hne
  · rcases h2 e he with ⟨h3, h4⟩ | h3
    · rcases hr with hr | hr
      · exact absurd (List.contains_iff_mem.2 hr) (by simpa using h3)
      · exact absurd (List.contains_iff_mem.2 hr) (by simpa using h4)
    · exact h3
theorem guardA_congr {ops : Array Oper} {o : Oper} {tm tm' : List AV} (h : ∀ d ∈ usesOf ops o, tm[d]? = tm'[d]?) : guardA ops o.guard tm = guardA ops o.guard tm' := by
  unfold guardA
  split
  · rfl
  · rename_i j want hg
    cases hd : (ops[j]?).bind (·.dst) with
    | none => rfl
    | some d =>
      simp only
      rw [h d (by
        simp only [usesOf, hg, List.mem_append]
        right
        rw [hd]; simp)]
theorem guardA_wanted {st : St} {Γ : Ctx} {tmps : Array Value} {M : List Nat} (h : Rel w0 L M outs st Γ tmps) {ops : Array Oper} {o : Oper} {b : Bool} (hb : guardA ops o.guard st.tm = some b) : Region.wanted o (yielded ops tmps) = b := by
  have hk : guardK ops o.guard st (fun _ => some true) (fun _ => some false) = some b := by
    unfold guardA at hb
    unfold guardK
    split at hb
    · rename_i hg
      simp only [hg]
      simpa using hb
    · rename_i j want hg
      split at hb
      · rename_i hd
        simp only [hg, hd]
        simpa using hb
      · rename_i d hd
        simp only [hg, hd]
        split at hb
        · rename_i t ht
          simp only [ht]
          simp only [Option.some.injEq] at hb
          subst hb
          cases t <;> cases want <;> rfl
        · rename_i ht
          simp only [ht]
          simpa using hb
        · rename_i ht
          simp only [ht]
          simpa using hb
        · simp at hb
  obtain ⟨st', _, h1⟩ := q4f (o := o) h hk
  rcases h1 with ⟨h1, h2⟩ | ⟨h1, h2⟩
  · simp only [Option.some.injEq] at h2; rw [h1, h2]
  · simp only [Option.some.injEq] at h2; rw [h1, h2]
theorem countP_set : ∀ (l : List Bool) (j : Nat), l[j]? = some false → (l.set j true).countP (fun b => !b) + 1 = l.countP (fun b => !b)
  | [], j, h => by simp at h
  | b :: l, 0, h => by
    simp only [List.getElem?_cons_zero, Option.some.injEq] at h
    subst h
    simp
  | b :: l, j + 1, h => by
    have := countP_set l j (by simpa using h)
    simp only [List.set_cons_succ, List.countP_cons]
    omega
theorem draw_any (hE : EnvOk P E w0) (hW : Wide F) {ops : Array Oper} {ts : List Tc} {S0 S1 : St} (hch : Chain E ops ops.toList S0 ts S1) (hlen : ts.length = ops.size)
    (hslots : slotsOk ops (Region.before ops) = true) (hback : backOk ops (Region.before ops) = true) (hlog : logOk (Region.before ops) ((ops.toList.zip ts).map fun p => p.2.log E p.1) = true)
    {Q : Exit → Act → World → Prop} (hn : ∀ Γ a, RelA F w0 L M0 outs S1 Γ a own → Q .normal a Γ.w) :
    ∀ (fuel : Nat) (listed : Array Bool) (Γ : Ctx) (a : Act), listed.size = ops.size → listed.toList.countP (fun b => !b) ≤ fuel → Closed ops (fun i => listed.getD i false) →
      RelA F w0 L M0 outs (atD (fun i => listed.getD i false) (ops.toList.zip ts) 0 S0) Γ a own → wpAnyIn F n P .any ops Q fuel listed a Γ.w := by
  have hin := chain_inB hch
  have hzl : (ops.toList.zip ts).length = ops.size := by simp [hlen]
  have hdone : ∀ (listed : Array Bool) (Γ : Ctx) (a : Act), listed.size = ops.size → RelA F w0 L M0 outs (atD (fun i => listed.getD i false) (ops.toList.zip ts) 0 S0) Γ a own → Region.ready .any ops listed = [] → Q .normal a Γ.w := by
    intro listed Γ a hs hr hready
    have hall : ∀ j, j < ops.size → listed.getD j false = true := by
      intro j
      induction j using Nat.strongRecOn with
      | _ j ih =>
        intro hj
        cases hl : listed.getD j false with
        | true => rfl
        | false =>
          exfalso
          have hmem : j ∈ Region.ready .any ops listed := by
            rw [mem_ready]
            refine ⟨?_, _, Array.getElem?_eq_getElem hj, fun e he hb => ?_⟩
            · simp only [Array.getD_eq_getD_getElem?] at hl ⊢
              rw [Array.getElem?_eq_getElem (by omega)] at hl ⊢
              simpa using hl
            · have hbit := ((before_spec ops).2 j _ (Array.getElem?_eq_getElem hj) e.on).2 ⟨e, by simpa using he, hb, .inl rfl⟩
              have hlt := back_lt hback hj hbit
              exact ih e.on hlt (by omega)
          rw [hready] at hmem
          simp at hmem
    rw [chain_end hch (fun i _ hi => hall i (by simpa using hi))] at hr
    exact hn Γ a hr
  intro fuel
  induction fuel with
  | zero =>
    intro listed Γ a hs hc hcl hr
    have hready : Region.ready .any ops listed = [] := by
      apply List.eq_nil_iff_forall_not_mem.2
      intro j hj
      rw [mem_ready] at hj
      obtain ⟨h1, o, ho, _⟩ := hj
      have hjn := (Array.getElem?_eq_some_iff.1 ho).1
      have hz : listed.toList.countP (fun b => !b) = 0 := by omega
      rw [List.countP_eq_zero] at hz
      have hjl : j < listed.size := by omega
      simp only [Array.getD_eq_getD_getElem?, Array.getElem?_eq_getElem hjl, Option.getD_some] at h1
      have := hz listed[j] (by simp)
      simp [h1] at this
    exact ⟨hready, hdone listed Γ a hs hr hready⟩
  | succ fuel ih =>
    intro listed Γ a hs hc hcl hr
    refine ⟨hdone listed Γ a hs hr, fun j hj => ?_⟩
    rw [mem_ready] at hj
    obtain ⟨h1, o, ho, hedges⟩ := hj
    have hjn := (Array.getElem?_eq_some_iff.1 ho).1
    have hjl : j < listed.size := by omega
    have hDj : listed.getD j false = false := by
      simp only [Array.getD_eq_getD_getElem?, Array.getElem?_eq_getElem hjl, Option.getD_some] at h1 ⊢
      exact h1
    have hed : ∀ e ∈ o.after.toList, Region.binds .any e = true → listed.getD e.on false = true := fun e he hb => hedges e (by simpa using he) hb
    obtain ⟨t, ht⟩ : ∃ t, ts[j]? = some t := ⟨_, List.getElem?_eq_getElem (by omega)⟩
    have hx : (ops.toList.zip ts)[j]? = some (o, t) := by
      rw [List.getElem?_zip_eq_some]
      exact ⟨by simpa using ho, ht⟩
    have hstep := chain_at (k := 0) hch hx
    simp only [Nat.zero_add] at hstep
    have hno := fun k hk hne => not_ordered hback hcl ho hDj hed (k := k) hk hne
    have hrow : ∀ (k : Nat) (y : Oper × Tc), (ops.toList.zip ts)[k]? = some y → ops[k]? = some y.1 ∧ ((ops.toList.zip ts).map fun p => p.2.log E p.1)[k]? = some (y.2.log E y.1) := by
      intro k y hy
      refine ⟨?_, by rw [List.getElem?_map, hy]; rfl⟩
      have := (List.getElem?_zip_eq_some.1 hy).1
      simpa using this
    have hl0 := (atD_len (fun i => listed.getD i false) (k := 0) hin rfl).1
    have hlj := (atD_len (fun i => decide (i < j)) (k := 0) hin rfl).1
    have htm : ∀ d ∈ usesOf ops o, (atD (fun i => listed.getD i false) (ops.toList.zip ts) 0 S0).tm[d]? = (atD (fun i => decide (i < j)) (ops.toList.zip ts) 0 S0).tm[d]? := by
      intro d hd
      refine agree_tm hin rfl rfl rfl rfl fun k y hy hne hdst => ?_
      simp only [Nat.zero_add] at hne
      obtain ⟨q1, _⟩ := hrow k y hy
      have hkn := (Array.getElem?_eq_some_iff.1 q1).1
      have hkj : k ≠ j := by
        rintro rfl
        rw [hDj] at hne
        simp at hne
      have h2 := (slots_dst hslots q1 ho hkj hdst).2 (by simpa using hd)
      rw [hno k hkn hne] at h2
      simp at h2
    have hσ : ∀ i ∈ (t.log E o).rd, (atD (fun i => listed.getD i false) (ops.toList.zip ts) 0 S0).σ[i]? = (atD (fun i => decide (i < j)) (ops.toList.zip ts) 0 S0).σ[i]? := by
      intro i hi
      refine agree_σ hin rfl rfl rfl fun k y hy hne htg => ?_
      simp only [Nat.zero_add] at hne
      obtain ⟨q1, q2⟩ := hrow k y hy
      have hkn := (Array.getElem?_eq_some_iff.1 q1).1
      have hkj : k ≠ j := by
        rintro rfl
        rw [hDj] at hne
        simp at hne
      have hran : y.2.ran = true := by
        cases hr : y.2.ran with
        | true => rfl
        | false =>
          have := (chain_at (k := 0) hch hy).skip hr
          rw [this.2] at htg
          simp at htg
      have hlg : i ∈ (y.2.log E y.1).tg := by
        simp only [Tc.log, hran, if_true]
        exact htg
      have := log_at hlog q2 (hrow j _ hx).2 hkj hlg (.inl hi)
      rw [hno k hkn hne] at this
      simp at this
    have hguard : guardA ops o.guard (atD (fun i => listed.getD i false) (ops.toList.zip ts) 0 S0).tm = some t.ran := by
      rw [guardA_congr htm]; exact hstep.guard
    have hwant := guardA_wanted hr.rel hguard
    have hnext : atD (fun i => (listed.setIfInBounds j true).getD i false) (ops.toList.zip ts) 0 S0 = after o (atD (fun i => listed.getD i false) (ops.toList.zip ts) 0 S0) t := by
      have h2 := atD_insert (D := fun i => listed.getD i false) (k := 0) (j := j) (st := S0) hin rfl hx (by simpa using hDj) (fun i (y : Oper × Tc) hij hy hd => by
        simp only [Nat.zero_add] at hd
        obtain ⟨q1, q2⟩ := hrow i y hy
        have hin' := (Array.getElem?_eq_some_iff.1 q1).1
        have hne : listed.getD i false ≠ decide (i < j) := by
          rw [hd]; simp; omega
        have hord := hno i hin' hne
        refine ⟨fun d hd' => (slots_dst hslots ho q1 (by omega) hd').1, fun e he he' => ?_⟩
        have r1 : t.ran = true := by
          cases hr : t.ran with
          | true => rfl
          | false => rw [(hstep.skip hr).2] at he; simp at he
        have r2 : y.2.ran = true := by
          cases hr : y.2.ran with
          | true => rfl
          | false => rw [((chain_at (k := 0) hch hy).skip hr).2] at he'; simp at he'
        have l1 : e ∈ (t.log E o).tg := by simp only [Tc.log, r1, if_true]; exact he
        have l2 : e ∈ (y.2.log E y.1).tg := by simp only [Tc.log, r2, if_true]; exact he'
        have := log_at hlog q2 (hrow j _ hx).2 (by omega) l2 (.inr l1)
        rw [hord] at this
        simp at this)
      simp only [Nat.zero_add] at h2
      rw [← h2]
      refine atD_congr fun i _ _ => ?_
      simp only [ins]
      by_cases hij : i = j
      · subst hij
        simp [Array.getD_eq_getD_getElem?, hjl]
      · have : (i == j) = false := by simp [hij]
        rw [this, Bool.false_or]
        exact getD_set_ne false (Ne.symm hij)
    have hcl' : Closed ops (fun i => (listed.setIfInBounds j true).getD i false) := by
      intro k o' ho' hk e he hb
      simp only at hk ⊢
      by_cases hkj : k = j
      · subst hkj
        rw [ho] at ho'
        simp only [Option.some.injEq] at ho'
        subst ho'
        exact getD_set_true (hed e he hb)
      · rw [getD_set_ne false (Ne.symm hkj)] at hk
        exact getD_set_true (hcl k o' ho' hk e he hb)
    have hcnt : (listed.setIfInBounds j true).toList.countP (fun b => !b) ≤ fuel := by
      rw [Array.toList_setIfInBounds]
      have := countP_set listed.toList j (by
        rw [Array.getElem?_toList]
        simp only [Array.getD_eq_getD_getElem?, Array.getElem?_eq_getElem hjl, Option.getD_some] at hDj
        rw [Array.getElem?_eq_getElem hjl, hDj])
      omega
    unfold wpOpIn
    rw [ho]
    simp only
    rw [hwant]
    cases hran : t.ran with
    | false =>
      obtain ⟨sv, se⟩ := hstep.skip hran
      simp only [Bool.false_eq_true, if_false]
      refine ⟨fun f _ => hW.1 f, ih _ Γ _ (by simp [hs]) hcnt hcl' ?_⟩
      rw [hnext]
      have := hr.put o.dst (undef_val (Γ := Γ))
      unfold after
      rw [sv, se]
      exact this
    | true =>
      simp only [if_true]
      have hR := hstep.run hran
      have hlogrd : ∀ i ∈ t.rd, i ∈ (t.log E o).rd := by
        intro i hi
        simp only [Tc.log, hran, if_true]
        simp [hi]
      have hopd : OpdOk Γ a (opdR (usesOf ops o) (atD (fun i => decide (i < j)) (ops.toList.zip ts) 0 S0).tm) := by
        intro x v hxv
        cases x with
        | tmp d =>
          simp only [opdR] at hxv
          split at hxv
          · rename_i hd
            rw [← htm d (by simpa using hd)] at hxv
            exact hr.rel.opd rfl (.tmp d) v hxv
          · simp at hxv
        | const c => exact constV_val hxv
        | func f => exact hr.rel.opd rfl (.func f) v hxv
        | global g => simp [opdR] at hxv
      have hlook : LookOk Γ (restrict (atD (fun i => decide (i < j)) (ops.toList.zip ts) 0 S0).σ t.rd) := by
        intro i e he
        simp only [restrict] at he
        split at he
        · rename_i hi
          rw [← hσ i (hlogrd i (by simpa using hi))] at he
          exact hr.rel.look i e he
        · simp at he
      have hfreshAt : ∀ i, (i < borns E o.op ∨ borns E o.op = 0) → Fresh Γ (t.nx + i) := by
        intro i hi
        by_cases hz : borns E o.op = 0
        · rw [hstep.nx hran hz]
          left
          rw [hr.rel.σ, hlj, ← hl0]
          simp
        · right
          have hi' : i < borns E o.op := by omega
          have he := hstep.born hran hz i hi'
          rw [← hσ (t.nx + i) (by
            simp only [Tc.log, hran, if_true, news, List.mem_append, List.mem_map, List.mem_range]
            exact .inl ⟨i, hi', rfl⟩)] at he
          exact hr.rel.look _ _ he
      have hfresh : Fresh Γ t.nx := hfreshAt 0 (by omega)
      refine opK_wp (q := two) (r := (t.v, t.e)) hW hE.T hE.spec hE.pure hE.D hE.G hr.rel.good hopd (fun g => rfl) hlook hfresh (fun h4 i hi => hfreshAt i (.inl (by omega))) hR ?_
      intro v e u Γ' hq hv hle hσ' hlb hg
      simp only [two, Option.some.injEq, Prod.mk.injEq] at hq
      obtain ⟨rfl, rfl⟩ := hq
      have hr' := hr.rel.step hle hσ' hlb hg (fun p hp => by
        have := hstep.lt p hp
        rw [hlj] at this
        rw [hl0]
        omega)
      refine ih _ Γ' _ (by simp [hs]) hcnt hcl' ?_
      rw [hnext]
      exact ({ hr with rel := hr' : RelA F w0 L M0 outs ((atD (fun i => listed.getD i false) (ops.toList.zip ts) 0 S0).eff t.e) Γ' a own }.put o.dst hv)
end
end Go.AV
end
section
set_option linter.unusedVariables false
set_option linter.unusedSimpArgs false
namespace Go.AV
open Go Go.RowKit
section
variable {P : Program} {E : Env} {w0 : Base} {L : List LI} {M : List Nat} {outs : List (List Value)} {st : St} {Γ : Ctx} {tmps : Array Value} {ρ : Type} {r : ρ}
theorem Rel.unborns (h : Rel w0 L M outs st Γ tmps) (n : Nat) : ∃ Γ', Γ'.w = { Γ.w with drawn := Γ.w.drawn + 1 } ∧ Rel w0 L M outs { st with σ := st.σ ++ List.replicate n .unborn } Γ' tmps := by
  obtain ⟨l1, g1⟩ := h.good.sameHeap (w' := { Γ.w with drawn := Γ.w.drawn + 1 }) rfl rfl rfl rfl
  let Γ1 : Ctx := { Γ with w := { Γ.w with drawn := Γ.w.drawn + 1 } }
  let Γ' : Ctx := { Γ1 with σ := fun i => (st.σ ++ List.replicate n Ent.unborn)[i]? }
  have hσ : ∀ i e, Γ'.σ i = some e → Γ1.σ i = some e ∨ e = .unborn := by
    intro i e he
    simp only [Γ'] at he
    rcases Nat.lt_or_ge i st.σ.length with hlt | hge
    · left
      rw [List.getElem?_append_left hlt] at he
      simp only [Γ1]
      rw [h.σ]; exact he
    · right
      rw [List.getElem?_append_right hge, List.getElem?_replicate] at he
      split at he
      · simpa using he.symm
      · simp at he
  have hle : Γ1.le Γ' := by
    refine ⟨fun b hb => ⟨hb, rfl⟩, fun i e h1 h2 => ⟨e, ?_, .inr ⟨Ent.same.rfl' h2, rfl, fun b C T _ hk => ⟨C, hk, rfl⟩⟩⟩, fun _ _ h => h⟩
    simp only [Γ1] at h1
    rw [h.σ] at h1
    simp only [Γ']
    rw [List.getElem?_append_left (List.getElem?_eq_some_iff.1 h1).1]
    exact h1
  have hg : Good w0 (spL st.lp L ++ spM M) Γ' := by
    refine { ent := fun i e he => ?_, inj := fun i j e e' b h1 h2 h3 h4 h5 h6 => ?_, base := fun i e b h1 h2 h3 => ?_, okb := g1.okb, below := g1.below, sp := g1.sp, okm := g1.okm, okn := g1.okn }
    · rcases hσ i e he with h1 | rfl
      · exact EntRep.stay hle (g1.ent i e h1) rfl fun b C T _ _ _ => ⟨rfl, Iff.rfl⟩
      · trivial
    · rcases hσ i e h1 with k1 | rfl
      · rcases hσ j e' h2 with k2 | rfl
        · exact g1.inj i j e e' b k1 k2 h3 h4 h5 h6
        · simp [Ent.live] at h4
      · simp [Ent.live] at h3
    · rcases hσ i e h1 with k1 | rfl
      · exact g1.base i e b k1 h2 h3
      · simp [Ent.live] at h2
  have hl := l1.trans hle
  exact ⟨Γ', rfl, { σ := rfl, tm := AV.ones_mono hl _ h.tm, out := qaw (fun _ _ h => AV.ones_mono hl _ h) h.out, lb := h.lb
                    lp := qaw (fun _ _ h => ⟨h.1, h.2.1, h.2.2.1, AV.ones_mono hl _ h.2.2.2⟩) h.lp, good := hg, nodup := h.nodup }⟩
theorem bornAt_spec : ∀ (es : List Ent) (k : Nat), (bornAt es k).Nodup ∧ ∀ i ∈ bornAt es k, k ≤ i ∧ i < k + es.length
  | [], k => ⟨by simp [bornAt], fun i h => by simp [bornAt] at h⟩
  | e :: es, k => by
    obtain ⟨h1, h2⟩ := bornAt_spec es (k + 1)
    simp only [bornAt]
    split
    · exact ⟨h1, fun i hi => by have := h2 i hi; simp only [List.length_cons]; omega⟩
    · refine ⟨List.nodup_cons.2 ⟨fun hk => by have := h2 k hk; omega, h1⟩, fun i hi => ?_⟩
      rcases List.mem_cons.1 hi with rfl | hi
      · simp
      · have := h2 i hi
        simp only [List.length_cons]; omega
theorem Rel.tidy (h : Rel w0 L M outs st Γ tmps) : ∃ Γ', Γ'.w = Γ.w ∧ Rel w0 L M outs st.tidy Γ' tmps := by
  unfold St.tidy
  split
  · obtain ⟨h1, h2⟩ := bornAt_spec st.σ 0
    obtain ⟨Γ', k1, k2, _⟩ := h.sel h1 (fun k hk => by have := h2 k hk; omega)
    exact ⟨Γ', k1, k2⟩
  · exact ⟨Γ, rfl, h⟩
theorem draw_sound (hE : EnvOk P E w0) : DrawSound P E w0 r := by
  intro F n L M0 outs id ops st Γ a own q Q hW h hr hn
  unfold drawK at h
  simp only at h
  split at h
  · rename_i hc
    simp only [Bool.and_eq_true] at hc
    obtain ⟨hs, hb⟩ := hc
    obtain ⟨ts, S1, hch, hlen, hq⟩ := drawOps_trace hE.nat _ _ _ _ h
    split at hq
    · rename_i hlog
      obtain ⟨Γ', hw, hrel⟩ := hr.rel.unborns ((ops.toList.map fun o => borns E o.op).foldl (· + ·) 0)
      refine wpIn_region_any hE.mixed ?_
      rw [← hw]
      refine draw_any (own := own) hE hW hch (by simpa using hlen) hs hb (by simpa using hlog) (fun Γ2 a2 hr2 => by
        obtain ⟨Γ3, w3, hr3⟩ := hr2.rel.tidy
        rw [← w3]
        exact hn _ Γ3 a2 hq { hr2 with rel := hr3 }) ops.size (Array.replicate ops.size false) Γ' a (by simp) (by
        have := List.countP_le_length (p := fun b => !b) (l := List.replicate ops.size false)
        rw [List.length_replicate] at this
        simpa using this) ?_ ?_
      · intro k o _ hk
        simp [Array.getD_eq_getD_getElem?, Array.getElem?_replicate] at hk
        split at hk <;> simp at hk
      · rw [atD_none (fun i _ => by
          simp only [Array.getD_eq_getD_getElem?, Array.getElem?_replicate]
          split <;> rfl)]
        exact { hr with rel := hrel }
    · simp at hq
  · simp at h
theorem ev_ok (hE : EnvOk P E w0) (N : Nat) : RecSound P E w0 r N (ev E N) := ev_sound hE (draw_sound hE) N
end
end Go.AV
end
section
set_option linter.unusedVariables false
set_option linter.unusedSimpArgs false
namespace Go.AV
open Go Go.RowKit
section
variable {ρ : Type} {E : Env}
def end2 (x : Ex) (st : St) : Option (Ex × St) := some (x, st)
def val2 (v : AV) (st : St) : Option (AV × St) := some (v, st)
abbrev PRec := (ρ : Type) → Rec ρ
abbrev PCall := (ρ : Type) → AV → List AV → St → (AV → St → Option ρ) → Option ρ
def NatRec (rec : PRec) : Prop := ∀ (ρ : Type) (fid cb : Nat) (c : Code) (st : St) (q : Ex → St → Option ρ), rec ρ fid cb c st q = (rec (Ex × St) fid cb c st end2).bind fun p => q p.1 p.2
def NatCall (call : PCall) : Prop := ∀ (ρ : Type) (f : AV) (args : List AV) (st : St) (q : AV → St → Option ρ), call ρ f args st q = (call (AV × St) f args st val2).bind fun p => q p.1 p.2
theorem guardK_bind {α : Type} {ops : Array Oper} {g : Option (Nat × Bool)} {st : St} {run skip : St → Option α} {run' skip' : St → Option ρ} {f : α → Option ρ} (h1 : ∀ s, run' s = (run s).bind f) (h2 : ∀ s, skip' s = (skip s).bind f) :
    guardK ops g st run' skip' = (guardK ops g st run skip).bind f := by
  unfold guardK
  split
  · exact h1 _
  · split
    · exact h2 _
    · split
      · rw [cond'_bind]
        rename_i b hb
        cases b <;> simp only [cond'] <;> split <;> simp only [h1, h2]
      · exact h2 _
      · exact h2 _
      · rfl
theorem operK_bind (hN : PureNat E) {call : PCall} (hc : NatCall call) (o : Oper) (st : St) (q : St → Option ρ) : operK E (call ρ) o st q = (operK E (call St) o st some).bind q := by
  unfold operK
  simp only [putK_eq, effK_eq]
  split
  · rename_i f args hf
    rw [hc ρ, hc St, Option.bind_assoc]
    rfl
  · rw [opK_bind E hN, opK_bind E hN (ρ := St), Option.bind_assoc]
    congr 1
    funext p
    split <;> rfl
theorem opsK_bind (hN : PureNat E) {call : PCall} (hc : NatCall call) (ops : Array Oper) : ∀ (os : List Oper) (st : St) (q : St → Option ρ), opsK E (call ρ) ops os st q = (opsK E (call St) ops os st some).bind q
  | [], st, q => rfl
  | o :: os, st, q => by
    simp only [opsK, putK_eq]
    refine guardK_bind (fun s => ?_) (fun s => opsK_bind hN hc ops os _ q)
    conv => lhs; rw [operK_bind hN hc]
    conv => rhs; rw [operK_bind hN hc]
    rw [Option.bind_assoc]
    congr 1
    funext s'
    exact opsK_bind hN hc ops os s' q
theorem drawOps_bind (hN : PureNat E) (ops : Array Oper) : ∀ (os : List Oper) (nx : Nat) (st : St) (l : List Log) (q : St → List Log → Option ρ), drawOps E ops nx os st l q = (drawOps E ops nx os st l fun s l => some (s, l)).bind fun p => q p.1 p.2
  | [], nx, st, l, q => rfl
  | o :: os, nx, st, l, q => by
    simp only [drawOps, putK_eq, effK_eq]
    refine guardK_bind (fun s => ?_) (fun s => drawOps_bind hN ops os _ _ _ q)
    split
    · rw [opK_bind E hN, opK_bind E hN (ρ := St × List Log), Option.bind_assoc]
      congr 1
      funext p
      split
      · exact drawOps_bind hN ops os _ _ _ q
      · rfl
    · rfl
theorem drawK_bind (hN : PureNat E) (ops : Array Oper) (st : St) (q : St → Option ρ) : drawK E ops st q = (drawK E ops st some).bind q := by
  unfold drawK
  dsimp only
  split
  · conv => lhs; rw [drawOps_bind hN]
    conv => rhs; rw [drawOps_bind hN]
    rw [Option.bind_assoc]
    congr 1
    funext p
    split <;> rfl
  · rfl
theorem enterK_bind {rec : PRec} (hr : NatRec rec) (f : FuncId) (args : List AV) (st : St) (q : AV → St → Option ρ) : enterK E (rec ρ) f args st q = (enterK E (rec (AV × St)) f args st val2).bind fun p => q p.1 p.2 := by
  unfold enterK
  split
  · rfl
  · split
    · rfl
    · split
      · rw [hr ρ, hr (AV × St), Option.bind_assoc]
        congr 1
        funext p
        split
        · rfl
        · split <;> rfl
      · rfl
theorem yieldK_bind {rec : PRec} (hr : NatRec rec) (l : Nat) (args : List AV) (st : St) (q : AV → St → Option ρ) : yieldK (rec ρ) l args st q = (yieldK (rec (AV × St)) l args st val2).bind fun p => q p.1 p.2 := by
  unfold yieldK
  split
  · rfl
  · split
    · rw [hr ρ, hr (AV × St), Option.bind_assoc]
      congr 1
      funext p
      split
      · split
        · rw [hr ρ, hr (AV × St), Option.bind_assoc]
          congr 1
          funext p'
          split
          · split <;> rfl
          · rfl
        · rfl
      · rfl
    · rfl
theorem callK_nat {rec : PRec} (hr : NatRec rec) : NatCall fun ρ => callK E (rec ρ) := by
  intro ρ f args st q
  simp only
  unfold callK
  split
  · exact enterK_bind hr _ _ _ _
  · exact yieldK_bind hr _ _ _ _
  · rfl
theorem exitK_bind (base : List Lp) : ∀ (es : List (Ex × Shape)) (y : ExDen es) (q : Ex → St → Option ρ), exitK base es y q = (exitK base es y end2).bind fun p => q p.1 p.2
  | [], y, q => y.elim
  | [e], y, q => rfl
  | e :: e' :: es, y, q => by
    cases y with
    | inl a => rfl
    | inr b => exact exitK_bind base (e' :: es) b q
theorem hookK_bind : ∀ (ls : List LoopC) (st : St) (q : Ex → St → Option ρ), hookK ls st q = (hookK ls st end2).bind fun p => q p.1 p.2
  | [], st, q => rfl
  | l :: ls, st, q => by
    simp only [hookK]
    split
    · rename_i x hx
      cases l.G x with
      | none => rfl
      | some y => exact exitK_bind _ _ _ _
    · exact hookK_bind ls st q
theorem evC_nat (hN : PureNat E) {rec : PRec} (hr : NatRec rec) : NatRec fun ρ => evC E (rec ρ) := by
  intro ρ fid cb c st q
  simp only
  induction c generalizing cb st q ρ with
  | skip => rfl
  | label l => rfl
  | region id ops draw =>
    cases draw with
    | false =>
      simp only [evC, spineSt_eq]
      rw [opsK_bind hN (call := fun ρ => callK E (rec ρ)) (callK_nat hr), opsK_bind hN (call := fun ρ => callK E (rec ρ)) (callK_nat hr) (ρ := Ex × St), Option.bind_assoc]
      rfl
    | true =>
      simp only [evC, spineSt_eq]
      conv => lhs; rw [drawK_bind hN]
      conv => rhs; rw [drawK_bind hN]
      rw [Option.bind_assoc]
      rfl
  | seq x y ihx ihy =>
    simp only [evC]
    conv => lhs; rw [ihx ρ]
    conv => rhs; rw [ihx (Ex × St)]
    rw [Option.bind_assoc]
    congr 1
    funext p
    split
    · exact ihy ρ _ _ _
    · rfl
  | cond c x y ihx ihy =>
    simp only [evC]
    split
    · rw [cond'_bind, ← ihx ρ, ← ihy ρ]
    · rfl
  | block id c ih =>
    simp only [evC]
    conv => lhs; rw [ih ρ]
    conv => rhs; rw [ih (Ex × St)]
    rw [Option.bind_assoc]
    congr 1
    funext p
    split
    · split <;> rfl
    · rfl
  | loop c ih =>
    simp only [evC]
    split
    · exact hookK_bind _ _ _
    · conv => lhs; rw [ih ρ]
      conv => rhs; rw [ih (Ex × St)]
      rw [Option.bind_assoc]
      congr 1
      funext p
      split
      · split
        · exact hr ρ _ _ _ _ _
        · split
          · exact hr ρ _ _ _ _ _
          · rfl
      · rfl
  | rangeFunc g ps asg b iha ihb =>
    simp only [evC]
    split
    · split
      · conv => lhs; rw [enterK_bind hr]
        conv => rhs; rw [enterK_bind hr]
        rw [Option.bind_assoc]
        congr 1
        funext p
        split
        · split <;> rfl
        · rfl
      · rfl
    · rfl
  | exit id => rfl
  | ret => rfl
  | scope c ih => exact ih ρ _ _ _
  | goto l => rfl
  | refuse w => rfl
theorem ev_nat (hN : PureNat E) : ∀ N, NatRec fun ρ => ev E N
  | 0 => fun ρ fid cb c st q => rfl
  | N + 1 => by
    have := evC_nat hN (ev_nat hN N)
    exact this
theorem PureNat.up (hN : PureNat E) (N : Nat) : PureNat (E.up N) := by
  intro ρ g args es q
  show enterK E (ev E N) g args ⟨[], [], es, []⟩ (fun v st => q v st.σ) = (enterK E (ev E N) g args ⟨[], [], es, []⟩ (fun v st => some (v, st.σ))).bind fun p => q p.1 p.2
  have h := fun ρ => enterK_bind (E := E) (ρ := ρ) (rec := fun ρ => ev E N) (ev_nat hN N) g args ⟨[], [], es, []⟩
  rw [h ρ, h (AV × List Ent), Option.bind_assoc]
  rfl
end
end Go.AV
end
section
set_option linter.unusedVariables false
set_option linter.unusedSimpArgs false
namespace Go.AV
open Go Go.RowKit
def pf (P : Program) : FuncId → Option Func := fun g => P.funcs[g]?
section
variable {P : Program} {E : Env} {ρ : Type} {r : ρ}
theorem bare_good (w : World) (ok : Nat → Prop) (fs : FuncId → Option Func) (hok : ∀ b, ok b → b < w.heap.size) : Good ⟨w, ok, fs⟩ [] (bare w ok) where
  ent := fun i e h => by simp [bare] at h
  inj := fun i j e e' b h => by simp [bare] at h
  base := fun i e b h => by simp [bare] at h
  okb := fun b hb => ⟨hok b hb, fun p hp => by simp at hp⟩
  below := Below.refl _ _
  sp := fun p hp => by simp at hp
  okm := fun b hb => hb
  okn := fun b hb => .inl hb
theorem bare_rel (w : World) (ok : Nat → Prop) (fs : FuncId → Option Func) (hok : ∀ b, ok b → b < w.heap.size) : Rel ⟨w, ok, fs⟩ [] [] [] ⟨[], [], [], []⟩ (bare w ok) #[] where
  σ := by funext i; simp [bare]
  tm := rfl
  out := .nil
  lb := rfl
  lp := .nil
  good := bare_good w ok fs hok
  nodup := by simp
theorem q9s {w : World} {ok : Nat → Prop} (hE : EnvOk P E ⟨w, ok, pf P⟩) (hok : ∀ b, ok b → b < w.heap.size) {F : Fence} {n N : Nat} (hW : Wide F) {f : FuncId} {args : List AV} {us : List Value} (ha : AV.ones (bare w ok) args us) {q : AV → St → Option ρ}
    (h : enterK E (ev E N) f args ⟨[], [], [], []⟩ q = some r) :
    (callFunc f us.toArray).run P w = .ok (.enter f us.toArray) w ∧ CallsIn F n P f us.toArray w fun
      | .returned v, w' => ∃ v' st' Γ', q v' st' = some r ∧ Rel ⟨w, ok, pf P⟩ [] [] [] st' Γ' #[] ∧ v'.val Γ' v ∧ Γ'.w = w'
      | _, _ => False := by
  have hr : RelA F.plain ⟨w, ok, pf P⟩ [] [] [] ⟨[], [], [], []⟩ (bare w ok) ⟨#[], []⟩ [] :=
    ⟨bare_rel w ok _ hok, rfl, fun _ => rfl, fun l h => by simp [Fence.plain] at h⟩
  obtain ⟨h1, h2⟩ := qy0 (F := F.plain) (n := n) hE hW (ev_ok hE N) h hr ha
  refine ⟨h1 _, ?_⟩
  show CallsIn F.plain n P f us.toArray w _
  refine CallsIn.mono h2 fun e w' he => ?_
  cases e with
  | returned v =>
    obtain ⟨v', st', Γ', k1, k2, k3, k4⟩ := he
    exact ⟨v', st', Γ', k1, k2.rel, k3, k4⟩
  | panicked c => exact he.elim
  | outgrown => exact he.elim
theorem PureOk.below {w w' : World} (h : PureOk P E w) (hb : Below w.heap.size w w') : PureOk P E w' :=
  fun ρ r g args es q hp F n hW Γ0 us hbel => h ρ r g args es q hp F n hW Γ0 us (hb.trans (hbel.mono hb.size))
theorem EnvOk.below {w w' : World} {ok ok' : Nat → Prop} (h : EnvOk P E ⟨w, ok, pf P⟩) (hb : Below w.heap.size w w') : EnvOk P E ⟨w', ok', pf P⟩ :=
  ⟨h.D, h.G.below hb, h.T, h.spec, h.pure.below hb, rfl, h.loops, h.nat, h.F, h.mixed⟩
theorem EnvOk.up {w : World} {ok : Nat → Prop} (h : EnvOk P E ⟨w, ok, pf P⟩) (N : Nat) : EnvOk P (E.up N) ⟨w, ok, pf P⟩ where
  D := h.D
  G := h.G
  T := h.T
  spec := h.spec
  F := h.F
  mixed := h.mixed
  fs := rfl
  loops := h.loops
  nat := h.nat.up N
  pure := by
    intro ρ r g args es q hp F n hW Γ0 us hbel hlb hσ hg ha
    have hE : EnvOk P E ⟨Γ0.w, Γ0.ok, pf P⟩ := h.below hbel
    have hr : RelA F.plain ⟨Γ0.w, Γ0.ok, pf P⟩ [] [] [] ⟨[], [], es, []⟩ Γ0 ⟨#[], []⟩ [] :=
      ⟨{ σ := hσ, tm := rfl, out := .nil, lb := hlb, lp := .nil, good := hg, nodup := by simp }, rfl, fun _ => rfl, fun l h => by simp [Fence.plain] at h⟩
    have hp' : enterK E (ev E N) g args ⟨[], [], es, []⟩ (fun v st => q v st.σ) = some r := hp
    obtain ⟨h1, h2⟩ := qy0 (F := F.plain) (n := n) (w0 := ⟨Γ0.w, Γ0.ok, pf P⟩) hE hW (ev_ok hE N) hp' hr ha
    rw [h1 us.toArray]
    show CallsIn F.plain n P g us.toArray Γ0.w _
    refine CallsIn.mono h2 fun e w' he => ?_
    cases e with
    | returned u =>
      obtain ⟨v', st', Γ', k1, k2, k3, k4⟩ := he
      exact ⟨v', st'.σ, Γ', k1, k4, k2.rel.lb, k2.rel.σ, k2.rel.good.subSp (fun p hp => by simp at hp), k3⟩
    | panicked c => exact he.elim
    | outgrown => exact he.elim
def EnvAll (P : Program) (E : Env) : Prop := ∀ w ok, GlobOk E.glob w → EnvOk P E ⟨w, ok, pf P⟩
theorem EnvAll.up (h : EnvAll P E) (N : Nat) : EnvAll P (E.up N) := fun w ok hw => (h w ok hw).up N
theorem q9w {w0 : Base} {L : List LI} {M : List Nat} {outs : List (List Value)} {st : St} {Γ : Ctx} {tmps : Array Value} (h : Rel w0 L M outs st Γ tmps) {R : List (Bool × Ty)} {v : AV} {u : Value} (hv : v.val Γ u) {y : denL R} (hy : retK R v st = some y) :
    ∃ Γ', Γ'.w = Γ.w ∧ Good w0 (spL st.lp L ++ spM M) Γ' ∧ (back R y).val Γ' u := by
  unfold retK at hy
  split at hy
  · rename_i a
    split at hy
    · rename_i x e hx
      obtain rfl := Option.some.inj hy
      obtain ⟨Γ', h1, _, _, _, h5, h6⟩ := qxb h.good h.look hx hv
      exact ⟨Γ', h1, h5, h6⟩
    · simp at hy
  · rename_i hne
    split at hy
    · rename_i x e hx
      obtain rfl := Option.some.inj hy
      obtain ⟨us, rfl, hus⟩ := hv
      obtain ⟨Γ', h1, _, _, _, h5, h6⟩ := q0f _ h.good h.look hx hus
      refine ⟨Γ', h1, h5, ?_⟩
      unfold back
      split
      · exact absurd rfl (hne _)
      · exact ⟨us, rfl, h6⟩
    · simp at hy
  · simp at hy
theorem qe {gl : Nat → Option AV} {f : FuncId} {c : Ctr} (h : ∀ x y, c.G x = some y → ∃ E N, E.glob = gl ∧ EnvAll P E ∧ evFn E N f c.A c.R x = some y) : FnSpec P gl f c := by
  intro F n hW w ok args x y hy hG hok ha
  obtain ⟨E, N, rfl, hE, hN⟩ := h x y hy
  obtain ⟨h1, h2⟩ := q9s (n := n) (hE w ok hG) hok hW ha hN
  rw [h1]
  refine CallsIn.mono h2 fun e w' he => ?_
  cases e with
  | returned u =>
    obtain ⟨v', st', Γ', k1, k2, k3, rfl⟩ := he
    obtain ⟨Γ2, m1, m2, m3⟩ := q9w k2 k3 k1
    refine ⟨k2.good.below, Γ2.ok, m2.okm, m2.okn, fun b hb => by rw [← m1]; exact (m2.okb b hb).1, ?_⟩
    exact back_ctx (Γ := Γ2) (Γ' := bare Γ'.w Γ2.ok) m1.symm rfl c.R y m3
  | panicked c => exact he.elim
  | outgrown => exact he.elim
def LpSame (b c : Lp) : Prop := b.params = c.params ∧ b.assign = c.assign ∧ b.body = c.body
theorem encL_same : ∀ (s : List LSh) {b c : List Lp}, All2 LpSame b c → ∀ (ts : List Ty) (x : denTs (LSh.tsL s ts)), LSh.encL s b ts x = LSh.encL s c ts x
  | [], b, c, h, ts, x => by cases b <;> cases c <;> rfl
  | l :: ls, _, _, .nil, ts, x => rfl
  | l :: ls, _, _, .cons (a := b) (b := c) (l := bs) (m := cs) h1 h2, ts, x => by
    obtain ⟨h3, h4, h5⟩ := h1
    simp only [LSh.encL]
    rw [encL_same ls h2, h3, h4, h5]
theorem enc_same (sh : Shape) {b c : List Lp} (h : All2 LpSame b c) (x : sh.den) : sh.enc b x = sh.enc c x := by
  exact congrArg (fun z : List Lp × denTs [] => (⟨_, _, _, z.1⟩ : St)) (encL_same sh.lp h [] _)
theorem encL_mem : ∀ (s : List LSh) (b : List Lp) (ts : List Ty) (x : denTs (LSh.tsL s ts)), b.length = s.length → All2 (fun (l : Lp) (p : LSh × Lp) => l.fid = p.1.fid ∧ l.cb = p.1.cb ∧ LpSame l p.2) (LSh.encL s b ts x).1 (s.zip b)
  | [], [], ts, x, h => .nil
  | [], b :: bs, ts, x, h => by simp at h
  | l :: ls, [], ts, x, h => by simp at h
  | l :: ls, b :: bs, ts, x, h => .cons ⟨rfl, rfl, rfl, rfl, rfl⟩ (encL_mem ls bs ts _ (by simpa using h))
theorem lpSame_of_encL : ∀ (s : List LSh) (b : List Lp) (ts : List Ty) (x : denTs (LSh.tsL s ts)), b.length = s.length → All2 LpSame b (LSh.encL s b ts x).1
  | [], [], ts, x, h => .nil
  | [], b :: bs, ts, x, h => by simp at h
  | l :: ls, [], ts, x, h => by simp at h
  | l :: ls, b :: bs, ts, x, h => .cons ⟨rfl, rfl, rfl⟩ (lpSame_of_encL ls bs ts _ (by simpa using h))
def CanonOk (F : FuncId → Option Func) (s : List LSh) (c : List Lp) : Prop := All2 (fun (l : LSh) (c : Lp) => ∀ ps a b, RfAt F l.fid l.cb ps a b → ps = c.params ∧ a = c.assign ∧ b = c.body) s c
theorem canon_same {F : FuncId → Option Func} : ∀ {s : List LSh} {c b : List Lp} {L : List LI} {ls : List Lp}, CanonOk F s c → b.length = s.length → All2 (fun (l : Lp) (p : LSh × Lp) => l.fid = p.1.fid ∧ l.cb = p.1.cb ∧ LpSame l p.2) ls (s.zip b) →
    All2 (fun (l : Lp) (i : LI) => (l.params = i.params ∧ RfAt F l.fid l.cb l.params l.assign l.body) ∧ l.assign = i.assign ∧ l.body = i.body ∧ True) ls L → All2 LpSame b c
  | [], _, b, _, _, .nil, hl, h1, h2 => by
    cases b with
    | nil => exact .nil
    | cons b bs => simp at hl
  | l :: s, _, [], _, _, .cons h0 hs, hl, h1, h2 => by simp at hl
  | l :: s, _, b :: bs, _, _, .cons h0 hs, hl, .cons ⟨e1, e2, e3, e4, e5⟩ h1, .cons ⟨⟨k1, k2⟩, k3⟩ h2 => by
    rw [e1, e2, e3, e4, e5] at k2
    obtain ⟨r1, r2, r3⟩ := h0 _ _ _ k2
    exact .cons ⟨r1, r2, r3⟩ (canon_same hs (by simpa using hl) h1 h2)
theorem all2_same_L : ∀ {b : List Lp} {c : List Lp} {L : List LI} {R S : Lp → LI → Prop}, (∀ l i, R l i → l.params = i.params ∧ l.assign = i.assign ∧ l.body = i.body) → (∀ l i, S l i → l.params = i.params ∧ l.assign = i.assign ∧ l.body = i.body) → All2 R b L → All2 S c L → All2 LpSame b c
  | _, _, _, R, S, _, _, .nil, .nil => .nil
  | _, _, _, R, S, hR, hS, .cons h1 h2, .cons k1 k2 => by
    obtain ⟨a1, a2, a3⟩ := hR _ _ h1
    obtain ⟨b1, b2, b3⟩ := hS _ _ k1
    exact .cons ⟨a1.trans b1.symm, a2.trans b2.symm, a3.trans b3.symm⟩ (all2_same_L hR hS h2 k2)
theorem lpSame_trans : ∀ {b c d : List Lp}, All2 LpSame b c → All2 LpSame c d → All2 LpSame b d
  | _, _, _, .nil, .nil => .nil
  | _, _, _, .cons ⟨a1, a2, a3⟩ h, .cons ⟨b1, b2, b3⟩ k => .cons ⟨a1.trans b1, a2.trans b2, a3.trans b3⟩ (lpSame_trans h k)
theorem exitD_exitK {w0 : Base} {L : List LI} {M : List Nat} {outs : List (List Value)} {st : St} {Γ : Ctx} {tmps : Array Value} (h : Rel w0 L M outs st Γ tmps) (base : List Lp) (hb : All2 LpSame base st.lp) {x : Ex} : ∀ (es : List (Ex × Shape)) (y : ExDen es), exitD es x st = some y →
    ∃ st' Γ', exitK base es y (fun x st => some (x, st)) = some (x, st') ∧ Γ'.w = Γ.w ∧ Rel w0 L M outs st' Γ' tmps
  | [], y, _ => y.elim
  | [e], y, hy => by
    simp only [exitD] at hy
    split at hy
    · rename_i he
      obtain ⟨Γ', h1, h2⟩ := h.take hy
      have h3 := (congrArg (fun s => Rel w0 L M outs s Γ' tmps) (enc_same e.2 hb y)).mpr h2
      exact ⟨_, Γ', by rw [← Ex.beq_eq he]; rfl, h1, h3⟩
    · cases hy
  | e :: e' :: es, y, hy => by
    have rest : ∀ z, exitD (e' :: es) x st = some z → ∃ st' Γ', exitK base (e :: e' :: es) (.inr z) (fun x st => some (x, st)) = some (x, st') ∧ Γ'.w = Γ.w ∧ Rel w0 L M outs st' Γ' tmps := by
      intro z hz
      obtain ⟨st', Γ', h1, h2, h3⟩ := exitD_exitK h base hb (e' :: es) z hz
      exact ⟨st', Γ', h1, h2, h3⟩
    simp only [exitD] at hy
    split at hy
    · rename_i he
      split at hy
      · rename_i z hz
        obtain rfl := Option.some.inj hy
        obtain ⟨Γ', h1, h2⟩ := h.take hz
        have h3 := (congrArg (fun s => Rel w0 L M outs s Γ' tmps) (enc_same e.2 hb z)).mpr h2
        exact ⟨_, Γ', by rw [← Ex.beq_eq he]; rfl, h1, h3⟩
      · obtain ⟨z, hz, rfl⟩ := Option.map_eq_some_iff.1 hy
        exact rest z hz
    · obtain ⟨z, hz, rfl⟩ := Option.map_eq_some_iff.1 hy
      exact rest z hz
theorem qd {gl : Nat → Option AV} {fid cb : Nat} {l : LoopC} {canon : List Lp} (hcan : CanonOk (pf P) l.sh.lp canon)
    (h : ∀ c, CodeAt (pf P) fid cb (.loop c) → ∀ x y, l.G x = some y → ∃ E N, E.glob = gl ∧ EnvAll P E ∧ ev E N fid cb (.loop c) (l.sh.enc canon x) (exitD l.ex) = some y) : LoopSpec P gl fid cb l := by
  intro F n hW w0 hG hfs c hat L M0 outs base Γ a own Q x y hlen hy hr hQ
  obtain ⟨w, ok, fs⟩ := w0
  simp only at hfs
  have hfs' : fs = pf P := hfs
  subst hfs'
  obtain ⟨E, N, rfl, hE, hN⟩ := h c hat x y hy
  have hbl : All2 LpSame base canon :=
    canon_same hcan hlen (encL_mem _ _ _ _ hlen) (qaw (fun _ _ h => ⟨h.1, h.2.1, h.2.2.1, trivial⟩) hr.rel.lp)
  have hrL := hr.rel.lp
  rw [enc_same l.sh hbl] at hr
  refine (ev_ok (hE w ok hG) N F n L M0 outs fid cb (.loop c) _ Γ a own _ Q hW hat hN hr ?_).1
  intro x' st' Γ' a' own' hk hr'
  have hrl := hr.rel.lp
  have hb2 : All2 LpSame base st'.lp := by
    refine lpSame_trans (lpSame_of_encL _ _ _ _ hlen) (all2_same_L ?_ ?_ hrL hr'.rel.lp)
    · exact fun l i h => ⟨h.1.1, h.2.1, h.2.2.1⟩
    · exact fun l i h => ⟨h.1.1, h.2.1, h.2.2.1⟩
  obtain ⟨st2, Γ2, h1, h2, h3⟩ := exitD_exitK hr'.rel base hb2 l.ex y hk
  rw [← h2]
  exact hQ x' st2 Γ2 a' own' h1 { hr' with rel := h3 }
def subs : Nat → Code → List (Nat × Code)
  | k, .seq a b => (k, .seq a b) :: (subs k a ++ subs k b)
  | k, .cond c a b => (k, .cond c a b) :: (subs k a ++ subs k b)
  | k, .block id c => (k, .block id c) :: subs id c
  | k, .scope c => (k, .scope c) :: subs k c
  | k, .loop c => (k, .loop c) :: subs k c
  | k, .rangeFunc g ps a b => (k, .rangeFunc g ps a b) :: (subs k a ++ subs k b)
  | k, c => [(k, c)]
theorem subs_self (k : Nat) (c : Code) : (k, c) ∈ subs k c := by cases c <;> simp [subs]
theorem subs_trans : ∀ (r : Code) {k j : Nat} {x : Code} {l : Nat} {y : Code}, (j, x) ∈ subs k r → (l, y) ∈ subs j x → (l, y) ∈ subs k r := by
  intro r
  induction r with
  | seq a b iha ihb =>
    intro k j x l y h1 h2
    simp only [subs, List.mem_cons, List.mem_append, Prod.mk.injEq] at h1
    rcases h1 with ⟨rfl, rfl⟩ | h1 | h1
    · exact h2
    · simp only [subs, List.mem_cons, List.mem_append]; exact .inr (.inl (iha h1 h2))
    · simp only [subs, List.mem_cons, List.mem_append]; exact .inr (.inr (ihb h1 h2))
  | cond c a b iha ihb =>
    intro k j x l y h1 h2
    simp only [subs, List.mem_cons, List.mem_append, Prod.mk.injEq] at h1
    rcases h1 with ⟨rfl, rfl⟩ | h1 | h1
    · exact h2
    · simp only [subs, List.mem_cons, List.mem_append]; exact .inr (.inl (iha h1 h2))
    · simp only [subs, List.mem_cons, List.mem_append]; exact .inr (.inr (ihb h1 h2))
  | scope c ih =>
    intro k j x l y h1 h2
    simp only [subs, List.mem_cons, Prod.mk.injEq] at h1
    rcases h1 with ⟨rfl, rfl⟩ | h1
    · exact h2
    · simp only [subs, List.mem_cons]; exact .inr (ih h1 h2)
  | block id c ih =>
    intro k j x l y h1 h2
    simp only [subs, List.mem_cons, Prod.mk.injEq] at h1
    rcases h1 with ⟨rfl, rfl⟩ | h1
    · exact h2
    · simp only [subs, List.mem_cons]; exact .inr (ih h1 h2)
  | loop c ih =>
    intro k j x l y h1 h2
    simp only [subs, List.mem_cons, Prod.mk.injEq] at h1
    rcases h1 with ⟨rfl, rfl⟩ | h1
    · exact h2
    · simp only [subs, List.mem_cons]; exact .inr (ih h1 h2)
  | rangeFunc g ps a b iha ihb =>
    intro k j x l y h1 h2
    simp only [subs, List.mem_cons, List.mem_append, Prod.mk.injEq] at h1
    rcases h1 with ⟨rfl, rfl⟩ | h1 | h1
    · exact h2
    · simp only [subs, List.mem_cons, List.mem_append]; exact .inr (.inl (iha h1 h2))
    · simp only [subs, List.mem_cons, List.mem_append]; exact .inr (.inr (ihb h1 h2))
  | _ =>
    intro k j x l y h1 h2
    simp only [subs, List.mem_cons, List.not_mem_nil, or_false, Prod.mk.injEq] at h1
    obtain ⟨rfl, rfl⟩ := h1
    exact h2
theorem Sub.mem {root : Code} {k : Nat} {c : Code} (h : Sub root k c) : (k, c) ∈ subs 0 root := by
  induction h with
  | root => exact subs_self 0 root
  | seqL _ ih => exact subs_trans root ih (by simp [subs, subs_self])
  | seqR _ ih => exact subs_trans root ih (by simp [subs, subs_self])
  | condL _ ih => exact subs_trans root ih (by simp [subs, subs_self])
  | condR _ ih => exact subs_trans root ih (by simp [subs, subs_self])
  | scope _ ih => exact subs_trans root ih (by simp [subs, subs_self])
  | block _ ih => exact subs_trans root ih (by simp [subs, subs_self])
  | loop _ ih => exact subs_trans root ih (by simp [subs, subs_self])
  | rfA _ ih => exact subs_trans root ih (by simp [subs, subs_self])
  | rfB _ ih => exact subs_trans root ih (by simp [subs, subs_self])
def loops : Nat → Code → List (Nat × Code)
  | k, .seq a b => loops k a ++ loops k b
  | k, .cond _ a b => loops k a ++ loops k b
  | _, .block id c => loops id c
  | k, .scope c => loops k c
  | k, .loop c => (k, c) :: loops k c
  | k, .rangeFunc _ _ a b => loops k a ++ loops k b
  | _, _ => []
theorem loops_subs : ∀ (r : Code) {k j : Nat} {c : Code}, (j, .loop c) ∈ subs k r → (j, c) ∈ loops k r := by
  intro r
  induction r with
  | seq a b iha ihb =>
    intro k j c h
    simp only [subs, List.mem_cons, List.mem_append, Prod.mk.injEq, reduceCtorEq, and_false, false_or] at h
    simp only [loops, List.mem_append]
    exact h.imp iha ihb
  | cond c a b iha ihb =>
    intro k j c h
    simp only [subs, List.mem_cons, List.mem_append, Prod.mk.injEq, reduceCtorEq, and_false, false_or] at h
    simp only [loops, List.mem_append]
    exact h.imp iha ihb
  | scope c ih =>
    intro k j c h
    simp only [subs, List.mem_cons, Prod.mk.injEq, reduceCtorEq, and_false, false_or] at h
    exact ih h
  | block id c ih =>
    intro k j c h
    simp only [subs, List.mem_cons, Prod.mk.injEq, reduceCtorEq, and_false, false_or] at h
    exact ih h
  | loop c ih =>
    intro k j c h
    simp only [subs, List.mem_cons, Prod.mk.injEq, Code.loop.injEq] at h
    simp only [loops, List.mem_cons, Prod.mk.injEq]
    exact h.imp id ih
  | rangeFunc g ps a b iha ihb =>
    intro k j c h
    simp only [subs, List.mem_cons, List.mem_append, Prod.mk.injEq, reduceCtorEq, and_false, false_or] at h
    simp only [loops, List.mem_append]
    exact h.imp iha ihb
  | _ =>
    intro k j c h
    simp [subs] at h
def loopAt (fn : Func) (cb : Nat) : Code := match fn.body with
  | none => .skip
  | some b => match (loops 0 b).find? (fun p => Nat.beq p.1 cb) with
    | some p => p.2
    | none => .skip
def oneLoop (fn : Func) (cb : Nat) : Bool := match fn.body with
  | none => true
  | some b => Nat.ble ((loops 0 b).filter (fun p => Nat.beq p.1 cb)).length 1
theorem loopAt_eq {fid cb : Nat} {fn : Func} {c : Code} (hf : pf P fid = some fn) (h1 : oneLoop fn cb = true) (h : CodeAt (pf P) fid cb (.loop c)) : c = loopAt fn cb := by
  obtain ⟨fn', b, k1, k2, k3⟩ := h
  rw [hf] at k1
  simp only [Option.some.injEq] at k1
  subst k1
  have hm := loops_subs b k3.mem
  unfold oneLoop at h1
  unfold loopAt
  rw [k2] at h1 ⊢
  simp only at h1 ⊢
  have hf : (cb, c) ∈ (loops 0 b).filter (fun p => Nat.beq p.1 cb) := List.mem_filter.2 ⟨hm, by simp⟩
  cases hfind : (loops 0 b).find? (fun p => Nat.beq p.1 cb) with
  | none =>
    rw [List.find?_eq_none] at hfind
    have := hfind _ hm
    simp at this
  | some p =>
    have hp : p ∈ (loops 0 b).filter (fun p => Nat.beq p.1 cb) := List.mem_filter.2 ⟨List.mem_of_find?_eq_some hfind, by simpa using List.find?_some hfind⟩
    simp only [Nat.ble_eq] at h1
    match hl : (loops 0 b).filter (fun p => Nat.beq p.1 cb), h1 with
    | [], _ => rw [hl] at hf; simp at hf
    | [x], _ =>
      rw [hl] at hf hp
      simp only [List.mem_singleton] at hf hp
      rw [hp, ← hf]
    | _ :: _ :: _, h1 => rw [hl] at h1; simp at h1
def rfs : Nat → Code → List (Nat × List Nat × Code × Code)
  | k, .seq a b => rfs k a ++ rfs k b
  | k, .cond _ a b => rfs k a ++ rfs k b
  | _, .block id c => rfs id c
  | k, .scope c => rfs k c
  | k, .loop c => rfs k c
  | k, .rangeFunc _ ps a b => (k, ps.toList, a, b) :: (rfs k a ++ rfs k b)
  | _, _ => []
theorem rfs_subs : ∀ (r : Code) {k j : Nat} {g : Operand} {ps : Array Tmp} {a b : Code}, (j, .rangeFunc g ps a b) ∈ subs k r → (j, ps.toList, a, b) ∈ rfs k r := by
  intro r
  induction r with
  | seq a b iha ihb =>
    intro k j g ps x y h
    simp only [subs, List.mem_cons, List.mem_append, Prod.mk.injEq, reduceCtorEq, and_false, false_or] at h
    simp only [rfs, List.mem_append]
    exact h.imp iha ihb
  | cond c a b iha ihb =>
    intro k j g ps x y h
    simp only [subs, List.mem_cons, List.mem_append, Prod.mk.injEq, reduceCtorEq, and_false, false_or] at h
    simp only [rfs, List.mem_append]
    exact h.imp iha ihb
  | scope c ih =>
    intro k j g ps x y h
    simp only [subs, List.mem_cons, Prod.mk.injEq, reduceCtorEq, and_false, false_or] at h
    exact ih h
  | block id c ih =>
    intro k j g ps x y h
    simp only [subs, List.mem_cons, Prod.mk.injEq, reduceCtorEq, and_false, false_or] at h
    exact ih h
  | loop c ih =>
    intro k j g ps x y h
    simp only [subs, List.mem_cons, Prod.mk.injEq, reduceCtorEq, and_false, false_or] at h
    exact ih h
  | rangeFunc g' ps' a' b' iha ihb =>
    intro k j g ps x y h
    simp only [subs, List.mem_cons, List.mem_append, Prod.mk.injEq, Code.rangeFunc.injEq] at h
    simp only [rfs, List.mem_cons, List.mem_append, Prod.mk.injEq]
    rcases h with ⟨rfl, rfl, rfl, rfl, rfl⟩ | h | h
    · exact .inl ⟨rfl, rfl, rfl, rfl⟩
    · exact .inr (.inl (iha h))
    · exact .inr (.inr (ihb h))
  | _ =>
    intro k j g ps x y h
    simp [subs] at h
def rfRec (fid cb : Nat) (fn : Func) : Lp := match fn.body with
  | none => ⟨fid, cb, [], [], .skip, .skip, .ready⟩
  | some b => match (rfs 0 b).find? (fun p => Nat.beq p.1 cb) with
    | some p => ⟨fid, cb, [], p.2.1, p.2.2.1, p.2.2.2, .ready⟩
    | none => ⟨fid, cb, [], [], .skip, .skip, .ready⟩
def oneRf (fn : Func) (cb : Nat) : Bool := match fn.body with
  | none => true
  | some b => Nat.ble ((rfs 0 b).filter (fun p => Nat.beq p.1 cb)).length 1
theorem rfRec_eq {fid cb : Nat} {fn : Func} (hf : pf P fid = some fn) (h1 : oneRf fn cb = true) {ps : List Nat} {x y : Code} (h : RfAt (pf P) fid cb ps x y) : ps = (rfRec fid cb fn).params ∧ x = (rfRec fid cb fn).assign ∧ y = (rfRec fid cb fn).body := by
  obtain ⟨g, qs, rfl, fn', b, k1, k2, k3⟩ := h
  rw [hf] at k1
  simp only [Option.some.injEq] at k1
  subst k1
  have hm := rfs_subs b k3.mem
  unfold oneRf at h1
  unfold rfRec
  rw [k2] at h1 ⊢
  simp only at h1 ⊢
  have hf : (cb, qs.toList, x, y) ∈ (rfs 0 b).filter (fun p => Nat.beq p.1 cb) := List.mem_filter.2 ⟨hm, by simp⟩
  cases hfind : (rfs 0 b).find? (fun p => Nat.beq p.1 cb) with
  | none =>
    rw [List.find?_eq_none] at hfind
    have := hfind _ hm
    simp at this
  | some p =>
    have hp : p ∈ (rfs 0 b).filter (fun p => Nat.beq p.1 cb) := List.mem_filter.2 ⟨List.mem_of_find?_eq_some hfind, by simpa using List.find?_some hfind⟩
    simp only [Nat.ble_eq] at h1
    match hl : (rfs 0 b).filter (fun p => Nat.beq p.1 cb), h1 with
    | [], _ => rw [hl] at hf; simp at hf
    | [z], _ =>
      rw [hl] at hf hp
      simp only [List.mem_singleton] at hf hp
      rw [hp, ← hf]
      exact ⟨rfl, rfl, rfl⟩
    | _ :: _ :: _, h1 => rw [hl] at h1; simp at h1
def Env.base (D : TypeId → Option TI) (F : FuncId → Option Func) (gl : Nat → Option AV) : Env :=
  ⟨D, F, fun _ => none, fun _ _ => none, fun _ _ => none, gl, fun _ _ _ _ _ => none, fun _ => none⟩
structure TabsOk (P : Program) (D : TypeId → Option TI) (F : FuncId → Option Func) : Prop where
  D : ∀ T d, D T = some d → TiOk P T d
  F : ∀ g fn, F g = some fn → P.funcs[g]? = some fn ∧ (fn.name == "runtime.NumGoroutine") = false
  mixed : P.follows .mixedOrders = true
def Env.mk' (D : TypeId → Option TI) (F : FuncId → Option Func) (gl : Nat → Option AV) (T : FuncId → Option Ctr) (ls : FuncId → Nat → Option (List LoopC)) (ann : FuncId → Nat → Option Shape)
    (S : FuncId → Option ((Nat → Option Ent) → List AV → Option (Bool × AV × List (Nat × Ent))) := fun _ => none) : Env :=
  ⟨D, F, T, ls, ann, gl, fun _ _ _ _ _ => none, S⟩
theorem EnvAll.mk' {D : TypeId → Option TI} {F : FuncId → Option Func} (h : TabsOk P D F) {gl : Nat → Option AV} {T : FuncId → Option Ctr} {ls : FuncId → Nat → Option (List LoopC)} (ann : FuncId → Nat → Option Shape)
    (hT : ∀ g t, T g = some t → FnSpec P gl g t) (hls : ∀ fid cb l, ls fid cb = some l → ∀ x ∈ l, LoopSpec P gl fid cb x) : EnvAll P (Env.mk' D F gl T ls ann) :=
  fun w ok hw => ⟨h.D, hw, hT, fun _ _ h => by simp [Env.mk'] at h, fun ρ r g args es q hq => by simp [Env.mk'] at hq, rfl, hls, fun ρ g args es q => rfl, h.F, h.mixed⟩
theorem EnvAll.mkS {D : TypeId → Option TI} {F : FuncId → Option Func} (h : TabsOk P D F) {gl : Nat → Option AV} {T : FuncId → Option Ctr} {ls : FuncId → Nat → Option (List LoopC)}
    {S : FuncId → Option ((Nat → Option Ent) → List AV → Option (Bool × AV × List (Nat × Ent)))} (ann : FuncId → Nat → Option Shape)
    (hT : ∀ g t, T g = some t → FnSpec P gl g t) (hls : ∀ fid cb l, ls fid cb = some l → ∀ x ∈ l, LoopSpec P gl fid cb x) (hS : ∀ g s, S g = some s → SpecOk P gl g s) : EnvAll P (Env.mk' D F gl T ls ann S) :=
  fun w ok hw => ⟨h.D, hw, hT, hS, fun ρ r g args es q hq => by simp [Env.mk'] at hq, rfl, hls, fun ρ g args es q => rfl, h.F, h.mixed⟩
theorem fuel_eq {X Y : Type} {f : Nat → X → Option Y} {st : (X → Option Y) → X → Option Y} (h0 : ∀ x, f 0 x = none) (h : ∀ n x, f (n + 1) x = st (f n) x) (l : Nat → X → Option Y) (l0 : ∀ x, l 0 x = none) (ls : ∀ n x, l (n + 1) x = st (l n) x) :
    ∀ n x, f n x = l n x
  | 0, x => (h0 x).trans (l0 x).symm
  | n + 1, x => by rw [h, ls, funext (fuel_eq h0 h l l0 ls n)]
def Mono {X Y : Type} (t : (X → Option Y) → Option Y) : Prop := ∀ r r' : X → Option Y, (∀ x y, r x = some y → r' x = some y) → ∀ y, t r = some y → t r' = some y
theorem mono_const {X Y : Type} {o : Option Y} : Mono (fun (_ : X → Option Y) => o) := fun _ _ _ _ h => h
theorem mono_rec {X Y : Type} {x : X} : Mono (fun (r : X → Option Y) => r x) := fun _ _ hr y h => hr x y h
theorem mono_cond {X Y : Type} {c : Bool} {a b : (X → Option Y) → Option Y} (ha : Mono a) (hb : Mono b) : Mono (fun r => cond' c (a r) (b r)) := by
  cases c
  · exact hb
  · exact ha
theorem mono_bind {X Y Z : Type} {o : Option Z} {f : Z → (X → Option Y) → Option Y} (hf : ∀ z, Mono (f z)) : Mono (fun r => o.bind fun z => f z r) := by
  cases o with
  | none => exact fun _ _ _ _ h => h
  | some z => exact hf z
theorem fuel_le {X Y : Type} {f : Nat → X → Option Y} {st : (X → Option Y) → X → Option Y} (hm : ∀ x, Mono (fun r => st r x)) (h : ∀ n x, f (n + 1) x = st (f n) x) (l : Nat → X → Option Y) (l0 : ∀ x, l 0 x = none) (ls : ∀ n x, l (n + 1) x = st (l n) x) :
    ∀ n x y, l n x = some y → f n x = some y
  | 0, x, y, e => by rw [l0] at e; cases e
  | n + 1, x, y, e => by
    rw [ls] at e
    rw [h]
    exact hm x _ _ (fuel_le hm h l l0 ls n) y e
def lookT : List (FuncId × Ctr) → FuncId → Option Ctr
  | [], _ => none
  | p :: l, f => match Nat.beq p.1 f with
    | true => some p.2
    | false => lookT l f
def AllT (P : Program) (gl : Nat → Option AV) : List (FuncId × Ctr) → Prop
  | [] => True
  | p :: l => FnSpec P gl p.1 p.2 ∧ AllT P gl l
theorem qb {gl : Nat → Option AV} : ∀ {l : List (FuncId × Ctr)}, AllT P gl l → ∀ g t, lookT l g = some t → FnSpec P gl g t
  | [], _, g, t, h => by simp [lookT] at h
  | p :: l, ⟨h1, h2⟩, g, t, h => by
    simp only [lookT] at h
    split at h
    · rename_i hp
      simp only [Option.some.injEq] at h
      subst h
      rw [← Nat.eq_of_beq_eq_true hp]; exact h1
    · exact qb h2 g t h
def lookS : List (FuncId × ((Nat → Option Ent) → List AV → Option (Bool × AV × List (Nat × Ent)))) → FuncId → Option ((Nat → Option Ent) → List AV → Option (Bool × AV × List (Nat × Ent)))
  | [], _ => none
  | p :: l, f => match Nat.beq p.1 f with
    | true => some p.2
    | false => lookS l f
def AllSp (P : Program) (gl : Nat → Option AV) : List (FuncId × ((Nat → Option Ent) → List AV → Option (Bool × AV × List (Nat × Ent)))) → Prop
  | [] => True
  | p :: l => SpecOk P gl p.1 p.2 ∧ AllSp P gl l
theorem q45 {gl : Nat → Option AV} : ∀ {l : List (FuncId × ((Nat → Option Ent) → List AV → Option (Bool × AV × List (Nat × Ent))))}, AllSp P gl l → ∀ g t, lookS l g = some t → SpecOk P gl g t
  | [], _, g, t, h => by simp [lookS] at h
  | p :: l, ⟨h1, h2⟩, g, t, h => by
    simp only [lookS] at h
    split at h
    · rename_i hp
      simp only [Option.some.injEq] at h
      subst h
      rw [← Nat.eq_of_beq_eq_true hp]; exact h1
    · exact q45 h2 g t h
def lookL : List (FuncId × Nat × List LoopC) → FuncId → Nat → Option (List LoopC)
  | [], _, _ => none
  | p :: l, f, c => match Nat.beq p.1 f && Nat.beq p.2.1 c with
    | true => some p.2.2
    | false => lookL l f c
def AllS (P : Program) (gl : Nat → Option AV) (f c : Nat) : List LoopC → Prop
  | [] => True
  | x :: l => LoopSpec P gl f c x ∧ AllS P gl f c l
def AllL (P : Program) (gl : Nat → Option AV) : List (FuncId × Nat × List LoopC) → Prop
  | [] => True
  | p :: l => AllS P gl p.1 p.2.1 p.2.2 ∧ AllL P gl l
theorem allS_mem {gl : Nat → Option AV} {f c : Nat} : ∀ {l : List LoopC}, AllS P gl f c l → ∀ x ∈ l, LoopSpec P gl f c x
  | [], _, x, h => by simp at h
  | y :: l, ⟨h1, h2⟩, x, h => by
    rcases List.mem_cons.1 h with rfl | h
    · exact h1
    · exact allS_mem h2 x h
theorem qa {gl : Nat → Option AV} : ∀ {l : List (FuncId × Nat × List LoopC)}, AllL P gl l → ∀ f c x, lookL l f c = some x → ∀ y ∈ x, LoopSpec P gl f c y
  | [], _, f, c, x, h => by simp [lookL] at h
  | p :: l, ⟨h1, h2⟩, f, c, x, h => by
    simp only [lookL] at h
    split at h
    · rename_i hp
      simp only [Option.some.injEq] at h
      subst h
      simp only [Bool.and_eq_true] at hp
      rw [← Nat.eq_of_beq_eq_true hp.1, ← Nat.eq_of_beq_eq_true hp.2]
      exact allS_mem h1
    · exact qa h2 f c x h
end
end Go.AV
end
section
set_option linter.unusedVariables false
set_option linter.unusedSimpArgs false
namespace Go.AV
open Go
def Ty.zv : Ty → List Value
  | .int k => [.int k 0] | .bool => [.bool false] | .str => [.string ByteArray.empty] | .unit => []
  | .prod a b => a.zv ++ b.zv | .slice _ => [.slice none 0 0] | .arr n t => (List.range n).flatMap fun _ => t.zv
theorem Ty.zv_rep (w : World) (ok : Nat → Prop) : ∀ t : Ty, t.rep w ok t.dflt t.zv
  | .int k => rfl
  | .bool => rfl
  | .str => rfl
  | .unit => rfl
  | .prod a b => ⟨_, _, rfl, a.zv_rep w ok, b.zv_rep w ok⟩
  | .slice t => ⟨none, 0, rfl, Nat.le_refl _, fun h => absurd h (by simp [Ty.dflt])⟩
  | .arr n t => ⟨by simp [Ty.dflt], fun _ => t.zv, rfl, fun i hi => by
      have e : List.getD (Ty.arr n t).dflt i t.dflt = t.dflt := by simp [Ty.dflt, List.getD_eq_getElem?_getD, List.getElem?_replicate, hi]
      rw [e]
      exact t.zv_rep w ok⟩
inductive Zr where
  | dat (t : Ty) | nils | nilp | nilf | agg (xs : List Zr)
mutual
def Zr.av : Zr → AV
  | .dat t => .dat t t.dflt
  | .nils => .nils
  | .nilp => .nilp
  | .nilf => .nilf
  | .agg xs => .agg (Zr.avL xs)
def Zr.avL : List Zr → List AV
  | [] => []
  | x :: xs => x.av :: Zr.avL xs
end
mutual
def Zr.zv : Zr → List Value
  | .dat t => t.zv
  | .nils => [.slice none 0 0]
  | .nilp => [.pointer none]
  | .nilf => [.nilFunc]
  | .agg xs => Zr.zvL xs
def Zr.zvL : List Zr → List Value
  | [] => []
  | x :: xs => x.zv ++ Zr.zvL xs
end
mutual
theorem Zr.cells (Γ : Ctx) : ∀ z : Zr, z.av.cells Γ z.zv
  | .dat t => t.zv_rep Γ.w Γ.ok
  | .nils => rfl
  | .nilp => rfl
  | .nilf => rfl
  | .agg xs => Zr.cellsL Γ xs
theorem Zr.cellsL (Γ : Ctx) : ∀ xs : List Zr, AV.cellsL Γ (Zr.avL xs) (Zr.zvL xs)
  | [] => rfl
  | x :: xs => ⟨_, _, rfl, Zr.cells Γ x, Zr.cellsL Γ xs⟩
end
def kChk (u : Option TypeDesc) (k : K) : Bool := match u, k with
  | some .bool, .bool => true
  | some (.int i), .int j => i == j
  | some .string, .str => true
  | some (.slice e), .slice e' => Nat.beq e e'
  | some (.array n e), .arr n' e' => Nat.beq n n' && Nat.beq e e'
  | some (.pointer _), .ptr => true
  | some (.struct fs), .struct flds => (fs.toList.map (fun f => (f.offset, f.type)) == flds) && fs.toList.all (fun f => f.name != "_")
  | some (.func _ _ _), .func => true
  | _, _ => false
theorem q9u {P : Program} {T : TypeId} {k : K} (h : kChk (P.underlying T) k = true) : KOk P T k := by
  unfold kChk at h
  split at h
  · rename_i e; exact e
  · rename_i e; rw [beq_iff_eq] at h; subst h; exact e
  · rename_i e; exact e
  · rename_i e; rw [Nat.eq_of_beq_eq_true h] at e; exact e
  · rename_i e
    simp only [Bool.and_eq_true] at h
    rw [Nat.eq_of_beq_eq_true h.1, Nat.eq_of_beq_eq_true h.2] at e; exact e
  · rename_i e; exact ⟨_, e⟩
  · rename_i fs flds e
    simp only [Bool.and_eq_true, beq_iff_eq, List.all_eq_true, bne_iff_ne] at h
    exact ⟨fs, e, h.1, fun f hf => h.2 f (by simpa using hf)⟩
  · rename_i e; exact ⟨_, _, _, e⟩
  · simp at h
def fitsChk (t : Ty) (k : K) : Bool := match t, k with
  | .int i, .int j => i == j
  | .int _, _ => false
  | .bool, .bool => true
  | .bool, _ => false
  | .str, .str => true
  | .str, _ => false
  | _, _ => true
theorem q46 {t : Ty} {k : K} (h : fitsChk t k = true) : tyFits t k := by
  unfold fitsChk at h
  unfold tyFits
  split at h <;> first | (rw [beq_iff_eq] at h; subst h; rfl) | rfl | (simp at h; done) | skip
  split <;> first | trivial | skip
  all_goals (rename_i a b; first | exact absurd rfl (by simp_all) | trivial | simp_all)
def mkTI (k : K) (size bytes : Nat) (ty : Option Ty) (z : Zr) (eq : Bool) : TI := ⟨k, size, bytes, ty, z.av, eq⟩
def rowChk (k : K) (size bytes : Nat) (ty : Option Ty) (z : Zr) : Bool :=
  Nat.beq z.av.shp.size size && (z.av.isAgg == (mkTI k size bytes ty z false).isAgg) && boxable z.av && (match ty with
    | none => true
    | some t => fitsChk t k && Nat.beq t.size size && (t.isAgg == (mkTI k size bytes ty z false).isAgg) && Nat.blt 0 size && Nat.blt 0 bytes)
theorem mkTi {P : Program} {T : TypeId} {k : K} {size bytes : Nat} {ty : Option Ty} {z : Zr} {eq : Bool} (hk : kChk (P.underlying T) k = true)
    (hi : (P.info? T).map (fun i => (i.size, i.bytes, i.zero)) = some (size, bytes, some (mk z.av.isAgg z.zv)))
    (hr : rowChk k size bytes ty z = true) (ht : ∀ t, ty = some t → mk z.av.isAgg z.zv = mk t.isAgg t.zv)
    (he : eq = true → P.eqGuardType P.depth T = false ∧ P.stoodInHeld T = false) : TiOk P T (mkTI k size bytes ty z eq) := by
  rw [Option.map_eq_some_iff] at hi
  obtain ⟨i, h1, h2⟩ := hi
  simp only [Prod.mk.injEq] at h2
  simp only [rowChk, Bool.and_eq_true, beq_iff_eq] at hr
  obtain ⟨⟨⟨r1, r2⟩, r3⟩, r4⟩ := hr
  refine { k := q9u hk, info := ⟨i, _, h1, h2.1, h2.2.1, h2.2.2, fun Γ => ⟨_, z.cells Γ, rfl⟩⟩, zshp := Nat.eq_of_beq_eq_true r1, zagg := r2, zbox := r3, tyk := ?_, eqs := he, ty := ?_ }
  · intro t h
    have h' : ty = some t := h
    subst h'
    simp only [Bool.and_eq_true] at r4
    exact q46 r4.1.1.1.1
  · intro t h
    have h' : ty = some t := h
    subst h'
    simp only [Bool.and_eq_true, beq_iff_eq, Nat.blt_eq] at r4
    refine ⟨Nat.eq_of_beq_eq_true r4.1.1.1.2, r4.1.1.2, ⟨r4.1.2, r4.2⟩, fun w ok => ⟨i, _, t.zv, h1, h2.2.2, t.zv_rep w ok, ht t rfl⟩⟩
theorem tr_get {α : Type} {Q : Nat → α → Prop} : ∀ {t : Tr α}, (match t with
    | .leaf => True
    | .node l k v r => (∀ n x, l.get n = some x → Q n x) ∧ Q k v ∧ (∀ n x, r.get n = some x → Q n x)) → ∀ n x, t.get n = some x → Q n x
  | .leaf, _, n, x, h => by simp [Tr.get] at h
  | .node l k v r, ⟨h1, h2, h3⟩, n, x, h => by
    simp only [Tr.get] at h
    split at h
    · rename_i hn
      simp only [Option.some.injEq] at h
      subst h
      rw [Nat.eq_of_beq_eq_true hn]; exact h2
    · split at h
      · exact h1 n x h
      · exact h3 n x h
theorem tr_leaf {α : Type} {Q : Nat → α → Prop} : ∀ n x, (Tr.leaf : Tr α).get n = some x → Q n x := fun n x h => by simp [Tr.get] at h
theorem tr_node {α : Type} {Q : Nat → α → Prop} {l r : Tr α} {k : Nat} {v : α} (h1 : ∀ n x, l.get n = some x → Q n x) (h2 : Q k v) (h3 : ∀ n x, r.get n = some x → Q n x) : ∀ n x, (Tr.node l k v r).get n = some x → Q n x :=
  tr_get (t := .node l k v r) ⟨h1, h2, h3⟩
end Go.AV
end
section
namespace Go.AV
open Go Go.Proofs
theorem qaca : TiOk Tryz.prog 1 (mkTI (.func) 1 8 none (.nilf) false) := mkTi (by kernel_rfl) (by kernel_rfl) (by kernel_rfl) (fun t h => by cases h <;> kernel_rfl) (fun h => by first | (cases h; done) | exact ⟨by kernel_rfl, by kernel_rfl⟩)
theorem qacb : TiOk Tryz.prog 2 (mkTI (.int .i64) 1 8 (some (.int .i64)) (.dat (.int .i64)) false) := mkTi (by kernel_rfl) (by kernel_rfl) (by kernel_rfl) (fun t h => by cases h <;> kernel_rfl) (fun h => by first | (cases h; done) | exact ⟨by kernel_rfl, by kernel_rfl⟩)
theorem qacc : TiOk Tryz.prog 3 (mkTI (.int .i64) 1 8 (some (.int .i64)) (.dat (.int .i64)) false) := mkTi (by kernel_rfl) (by kernel_rfl) (by kernel_rfl) (fun t h => by cases h <;> kernel_rfl) (fun h => by first | (cases h; done) | exact ⟨by kernel_rfl, by kernel_rfl⟩)
theorem qacd : TiOk Tryz.prog 4 (mkTI (.bool) 1 1 (some .bool) (.dat .bool) true) := mkTi (by kernel_rfl) (by kernel_rfl) (by kernel_rfl) (fun t h => by cases h <;> kernel_rfl) (fun h => by first | (cases h; done) | exact ⟨by kernel_rfl, by kernel_rfl⟩)
theorem qace : TiOk Tryz.prog 5 (mkTI (.int .u8) 1 1 (some (.int .u8)) (.dat (.int .u8)) false) := mkTi (by kernel_rfl) (by kernel_rfl) (by kernel_rfl) (fun t h => by cases h <;> kernel_rfl) (fun h => by first | (cases h; done) | exact ⟨by kernel_rfl, by kernel_rfl⟩)
theorem qacf : TiOk Tryz.prog 6 (mkTI (.int .u8) 1 1 (some (.int .u8)) (.dat (.int .u8)) false) := mkTi (by kernel_rfl) (by kernel_rfl) (by kernel_rfl) (fun t h => by cases h <;> kernel_rfl) (fun h => by first | (cases h; done) | exact ⟨by kernel_rfl, by kernel_rfl⟩)
theorem qacg : TiOk Tryz.prog 7 (mkTI (.struct [(0, 2), (1, 3), (2, 4), (3, 6)]) 4 24 (some (.prod (.int .i64) (.prod (.int .i64) (.prod .bool (.prod (.int .u8) .unit))))) (.dat (.prod (.int .i64) (.prod (.int .i64) (.prod .bool (.prod (.int .u8) .unit))))) true) := mkTi (by kernel_rfl) (by kernel_rfl) (by kernel_rfl) (fun t h => by cases h <;> kernel_rfl) (fun h => by first | (cases h; done) | exact ⟨by kernel_rfl, by kernel_rfl⟩)
theorem qach : TiOk Tryz.prog 8 (mkTI (.struct [(0, 2), (1, 3), (2, 4), (3, 6)]) 4 24 (some (.prod (.int .i64) (.prod (.int .i64) (.prod .bool (.prod (.int .u8) .unit))))) (.dat (.prod (.int .i64) (.prod (.int .i64) (.prod .bool (.prod (.int .u8) .unit))))) true) := mkTi (by kernel_rfl) (by kernel_rfl) (by kernel_rfl) (fun t h => by cases h <;> kernel_rfl) (fun h => by first | (cases h; done) | exact ⟨by kernel_rfl, by kernel_rfl⟩)
theorem qaci : TiOk Tryz.prog 9 (mkTI (.str) 1 16 (some .str) (.dat .str) false) := mkTi (by kernel_rfl) (by kernel_rfl) (by kernel_rfl) (fun t h => by cases h <;> kernel_rfl) (fun h => by first | (cases h; done) | exact ⟨by kernel_rfl, by kernel_rfl⟩)
theorem q9x : TiOk Tryz.prog 10 (mkTI (.str) 1 16 (some .str) (.dat .str) false) := mkTi (by kernel_rfl) (by kernel_rfl) (by kernel_rfl) (fun t h => by cases h <;> kernel_rfl) (fun h => by first | (cases h; done) | exact ⟨by kernel_rfl, by kernel_rfl⟩)
theorem q9y : TiOk Tryz.prog 11 (mkTI (.str) 1 16 (some .str) (.dat .str) false) := mkTi (by kernel_rfl) (by kernel_rfl) (by kernel_rfl) (fun t h => by cases h <;> kernel_rfl) (fun h => by first | (cases h; done) | exact ⟨by kernel_rfl, by kernel_rfl⟩)
theorem q9z : TiOk Tryz.prog 12 (mkTI (.int .u64) 1 8 (some (.int .u64)) (.dat (.int .u64)) false) := mkTi (by kernel_rfl) (by kernel_rfl) (by kernel_rfl) (fun t h => by cases h <;> kernel_rfl) (fun h => by first | (cases h; done) | exact ⟨by kernel_rfl, by kernel_rfl⟩)
theorem q90 : TiOk Tryz.prog 13 (mkTI (.struct [(0, 9), (1, 12)]) 2 24 (some (.prod .str (.prod (.int .u64) .unit))) (.dat (.prod .str (.prod (.int .u64) .unit))) false) := mkTi (by kernel_rfl) (by kernel_rfl) (by kernel_rfl) (fun t h => by cases h <;> kernel_rfl) (fun h => by first | (cases h; done) | exact ⟨by kernel_rfl, by kernel_rfl⟩)
theorem q91 : TiOk Tryz.prog 14 (mkTI (.struct [(0, 9), (1, 12)]) 2 24 (some (.prod .str (.prod (.int .u64) .unit))) (.dat (.prod .str (.prod (.int .u64) .unit))) false) := mkTi (by kernel_rfl) (by kernel_rfl) (by kernel_rfl) (fun t h => by cases h <;> kernel_rfl) (fun h => by first | (cases h; done) | exact ⟨by kernel_rfl, by kernel_rfl⟩)
theorem q92 : TiOk Tryz.prog 15 (mkTI (.ptr) 1 8 none (.nilp) false) := mkTi (by kernel_rfl) (by kernel_rfl) (by kernel_rfl) (fun t h => by cases h <;> kernel_rfl) (fun h => by first | (cases h; done) | exact ⟨by kernel_rfl, by kernel_rfl⟩)
theorem q93 : TiOk Tryz.prog 16 (mkTI (.ptr) 1 8 none (.nilp) false) := mkTi (by kernel_rfl) (by kernel_rfl) (by kernel_rfl) (fun t h => by cases h <;> kernel_rfl) (fun h => by first | (cases h; done) | exact ⟨by kernel_rfl, by kernel_rfl⟩)
theorem q94 : TiOk Tryz.prog 17 (mkTI (.ptr) 1 8 none (.nilp) false) := mkTi (by kernel_rfl) (by kernel_rfl) (by kernel_rfl) (fun t h => by cases h <;> kernel_rfl) (fun h => by first | (cases h; done) | exact ⟨by kernel_rfl, by kernel_rfl⟩)
theorem q95 : TiOk Tryz.prog 18 (mkTI (.struct [(0, 17)]) 1 8 none (.agg [.nilp]) false) := mkTi (by kernel_rfl) (by kernel_rfl) (by kernel_rfl) (fun t h => by cases h <;> kernel_rfl) (fun h => by first | (cases h; done) | exact ⟨by kernel_rfl, by kernel_rfl⟩)
theorem q96 : TiOk Tryz.prog 19 (mkTI (.struct [(0, 17)]) 1 8 none (.agg [.nilp]) false) := mkTi (by kernel_rfl) (by kernel_rfl) (by kernel_rfl) (fun t h => by cases h <;> kernel_rfl) (fun h => by first | (cases h; done) | exact ⟨by kernel_rfl, by kernel_rfl⟩)
theorem q97 : TiOk Tryz.prog 21 (mkTI (.int .i32) 1 4 (some (.int .i32)) (.dat (.int .i32)) false) := mkTi (by kernel_rfl) (by kernel_rfl) (by kernel_rfl) (fun t h => by cases h <;> kernel_rfl) (fun h => by first | (cases h; done) | exact ⟨by kernel_rfl, by kernel_rfl⟩)
theorem q98 : TiOk Tryz.prog 22 (mkTI (.arr 3 5) 3 3 (some (.arr 3 (.int .u8))) (.dat (.arr 3 (.int .u8))) true) := mkTi (by kernel_rfl) (by kernel_rfl) (by kernel_rfl) (fun t h => by cases h <;> kernel_rfl) (fun h => by first | (cases h; done) | exact ⟨by kernel_rfl, by kernel_rfl⟩)
theorem q99 : TiOk Tryz.prog 23 (mkTI (.int .u16) 1 2 (some (.int .u16)) (.dat (.int .u16)) false) := mkTi (by kernel_rfl) (by kernel_rfl) (by kernel_rfl) (fun t h => by cases h <;> kernel_rfl) (fun h => by first | (cases h; done) | exact ⟨by kernel_rfl, by kernel_rfl⟩)
theorem qaaa : TiOk Tryz.prog 24 (mkTI (.arr 3 23) 3 6 (some (.arr 3 (.int .u16))) (.dat (.arr 3 (.int .u16))) true) := mkTi (by kernel_rfl) (by kernel_rfl) (by kernel_rfl) (fun t h => by cases h <;> kernel_rfl) (fun h => by first | (cases h; done) | exact ⟨by kernel_rfl, by kernel_rfl⟩)
theorem qaab : TiOk Tryz.prog 25 (mkTI (.arr 3 24) 9 18 (some (.arr 3 (.arr 3 (.int .u16)))) (.dat (.arr 3 (.arr 3 (.int .u16)))) true) := mkTi (by kernel_rfl) (by kernel_rfl) (by kernel_rfl) (fun t h => by cases h <;> kernel_rfl) (fun h => by first | (cases h; done) | exact ⟨by kernel_rfl, by kernel_rfl⟩)
theorem qaac : TiOk Tryz.prog 26 (mkTI (.slice 34) 1 24 (some (.slice (.int .i16))) (.nils) false) := mkTi (by kernel_rfl) (by kernel_rfl) (by kernel_rfl) (fun t h => by cases h <;> kernel_rfl) (fun h => by first | (cases h; done) | exact ⟨by kernel_rfl, by kernel_rfl⟩)
theorem qaad : TiOk Tryz.prog 27 (mkTI (.struct [(0, 22), (3, 25), (12, 26)]) 13 48 (some (.prod (.arr 3 (.int .u8)) (.prod (.arr 3 (.arr 3 (.int .u16))) (.prod (.slice (.int .i16)) .unit)))) (.agg [.dat (.arr 3 (.int .u8)), .dat (.arr 3 (.arr 3 (.int .u16))), .nils]) false) := mkTi (by kernel_rfl) (by kernel_rfl) (by kernel_rfl) (fun t h => by cases h <;> kernel_rfl) (fun h => by first | (cases h; done) | exact ⟨by kernel_rfl, by kernel_rfl⟩)
theorem qaae : TiOk Tryz.prog 28 (mkTI (.struct [(0, 22), (3, 25), (12, 26)]) 13 48 (some (.prod (.arr 3 (.int .u8)) (.prod (.arr 3 (.arr 3 (.int .u16))) (.prod (.slice (.int .i16)) .unit)))) (.agg [.dat (.arr 3 (.int .u8)), .dat (.arr 3 (.arr 3 (.int .u16))), .nils]) false) := mkTi (by kernel_rfl) (by kernel_rfl) (by kernel_rfl) (fun t h => by cases h <;> kernel_rfl) (fun h => by first | (cases h; done) | exact ⟨by kernel_rfl, by kernel_rfl⟩)
theorem qaaf : TiOk Tryz.prog 29 (mkTI (.slice 5) 1 24 (some (.slice (.int .u8))) (.nils) false) := mkTi (by kernel_rfl) (by kernel_rfl) (by kernel_rfl) (fun t h => by cases h <;> kernel_rfl) (fun h => by first | (cases h; done) | exact ⟨by kernel_rfl, by kernel_rfl⟩)
theorem qaag : TiOk Tryz.prog 30 (mkTI (.slice 23) 1 24 (some (.slice (.int .u16))) (.nils) false) := mkTi (by kernel_rfl) (by kernel_rfl) (by kernel_rfl) (fun t h => by cases h <;> kernel_rfl) (fun h => by first | (cases h; done) | exact ⟨by kernel_rfl, by kernel_rfl⟩)
theorem qaah : TiOk Tryz.prog 31 (mkTI (.struct [(0, 29), (1, 5), (2, 30), (3, 4)]) 4 64 (some (.prod (.slice (.int .u8)) (.prod (.int .u8) (.prod (.slice (.int .u16)) (.prod .bool .unit))))) (.agg [.nils, .dat (.int .u8), .nils, .dat .bool]) false) := mkTi (by kernel_rfl) (by kernel_rfl) (by kernel_rfl) (fun t h => by cases h <;> kernel_rfl) (fun h => by first | (cases h; done) | exact ⟨by kernel_rfl, by kernel_rfl⟩)
theorem qaai : TiOk Tryz.prog 32 (mkTI (.struct [(0, 29), (1, 5), (2, 30), (3, 4)]) 4 64 (some (.prod (.slice (.int .u8)) (.prod (.int .u8) (.prod (.slice (.int .u16)) (.prod .bool .unit))))) (.agg [.nils, .dat (.int .u8), .nils, .dat .bool]) false) := mkTi (by kernel_rfl) (by kernel_rfl) (by kernel_rfl) (fun t h => by cases h <;> kernel_rfl) (fun h => by first | (cases h; done) | exact ⟨by kernel_rfl, by kernel_rfl⟩)
theorem qaaj : TiOk Tryz.prog 33 (mkTI (.arr 4 5) 4 4 (some (.arr 4 (.int .u8))) (.dat (.arr 4 (.int .u8))) true) := mkTi (by kernel_rfl) (by kernel_rfl) (by kernel_rfl) (fun t h => by cases h <;> kernel_rfl) (fun h => by first | (cases h; done) | exact ⟨by kernel_rfl, by kernel_rfl⟩)
theorem qaak : TiOk Tryz.prog 34 (mkTI (.int .i16) 1 2 (some (.int .i16)) (.dat (.int .i16)) false) := mkTi (by kernel_rfl) (by kernel_rfl) (by kernel_rfl) (fun t h => by cases h <;> kernel_rfl) (fun h => by first | (cases h; done) | exact ⟨by kernel_rfl, by kernel_rfl⟩)
theorem qaal : TiOk Tryz.prog 35 (mkTI (.arr 3 34) 3 6 (some (.arr 3 (.int .i16))) (.dat (.arr 3 (.int .i16))) true) := mkTi (by kernel_rfl) (by kernel_rfl) (by kernel_rfl) (fun t h => by cases h <;> kernel_rfl) (fun h => by first | (cases h; done) | exact ⟨by kernel_rfl, by kernel_rfl⟩)
theorem qaam : TiOk Tryz.prog 36 (mkTI (.slice 3) 1 24 (some (.slice (.int .i64))) (.nils) false) := mkTi (by kernel_rfl) (by kernel_rfl) (by kernel_rfl) (fun t h => by cases h <;> kernel_rfl) (fun h => by first | (cases h; done) | exact ⟨by kernel_rfl, by kernel_rfl⟩)
theorem qaan : TiOk Tryz.prog 37 (mkTI (.struct [(0, 36), (1, 3), (2, 36)]) 3 56 (some (.prod (.slice (.int .i64)) (.prod (.int .i64) (.prod (.slice (.int .i64)) .unit)))) (.agg [.nils, .dat (.int .i64), .nils]) false) := mkTi (by kernel_rfl) (by kernel_rfl) (by kernel_rfl) (fun t h => by cases h <;> kernel_rfl) (fun h => by first | (cases h; done) | exact ⟨by kernel_rfl, by kernel_rfl⟩)
theorem qaao : TiOk Tryz.prog 38 (mkTI (.struct [(0, 36), (1, 3), (2, 36)]) 3 56 (some (.prod (.slice (.int .i64)) (.prod (.int .i64) (.prod (.slice (.int .i64)) .unit)))) (.agg [.nils, .dat (.int .i64), .nils]) false) := mkTi (by kernel_rfl) (by kernel_rfl) (by kernel_rfl) (fun t h => by cases h <;> kernel_rfl) (fun h => by first | (cases h; done) | exact ⟨by kernel_rfl, by kernel_rfl⟩)
theorem qaap : TiOk Tryz.prog 39 (mkTI (.func) 1 8 none (.nilf) false) := mkTi (by kernel_rfl) (by kernel_rfl) (by kernel_rfl) (fun t h => by cases h <;> kernel_rfl) (fun h => by first | (cases h; done) | exact ⟨by kernel_rfl, by kernel_rfl⟩)
theorem qaaq : TiOk Tryz.prog 40 (mkTI (.arr 4 38) 12 224 (some (.arr 4 (.prod (.slice (.int .i64)) (.prod (.int .i64) (.prod (.slice (.int .i64)) .unit))))) (.dat (.arr 4 (.prod (.slice (.int .i64)) (.prod (.int .i64) (.prod (.slice (.int .i64)) .unit))))) false) := mkTi (by kernel_rfl) (by kernel_rfl) (by kernel_rfl) (fun t h => by cases h <;> kernel_rfl) (fun h => by first | (cases h; done) | exact ⟨by kernel_rfl, by kernel_rfl⟩)
theorem qaar : TiOk Tryz.prog 41 (mkTI (.func) 1 8 none (.nilf) false) := mkTi (by kernel_rfl) (by kernel_rfl) (by kernel_rfl) (fun t h => by cases h <;> kernel_rfl) (fun h => by first | (cases h; done) | exact ⟨by kernel_rfl, by kernel_rfl⟩)
theorem qaas : TiOk Tryz.prog 42 (mkTI (.arr 4 36) 4 96 (some (.arr 4 (.slice (.int .i64)))) (.dat (.arr 4 (.slice (.int .i64)))) false) := mkTi (by kernel_rfl) (by kernel_rfl) (by kernel_rfl) (fun t h => by cases h <;> kernel_rfl) (fun h => by first | (cases h; done) | exact ⟨by kernel_rfl, by kernel_rfl⟩)
theorem qaat : TiOk Tryz.prog 43 (mkTI (.slice 55) 1 24 (some (.slice (.prod .str (.prod .str .unit)))) (.nils) false) := mkTi (by kernel_rfl) (by kernel_rfl) (by kernel_rfl) (fun t h => by cases h <;> kernel_rfl) (fun h => by first | (cases h; done) | exact ⟨by kernel_rfl, by kernel_rfl⟩)
theorem qaau : TiOk Tryz.prog 44 (mkTI (.int .i64) 1 8 (some (.int .i64)) (.dat (.int .i64)) false) := mkTi (by kernel_rfl) (by kernel_rfl) (by kernel_rfl) (fun t h => by cases h <;> kernel_rfl) (fun h => by first | (cases h; done) | exact ⟨by kernel_rfl, by kernel_rfl⟩)
theorem qaav : TiOk Tryz.prog 46 (mkTI (.func) 1 8 none (.nilf) false) := mkTi (by kernel_rfl) (by kernel_rfl) (by kernel_rfl) (fun t h => by cases h <;> kernel_rfl) (fun h => by first | (cases h; done) | exact ⟨by kernel_rfl, by kernel_rfl⟩)
theorem qaaw : TiOk Tryz.prog 48 (mkTI (.func) 1 8 none (.nilf) false) := mkTi (by kernel_rfl) (by kernel_rfl) (by kernel_rfl) (fun t h => by cases h <;> kernel_rfl) (fun h => by first | (cases h; done) | exact ⟨by kernel_rfl, by kernel_rfl⟩)
theorem qaax : TiOk Tryz.prog 49 (mkTI (.func) 1 8 none (.nilf) false) := mkTi (by kernel_rfl) (by kernel_rfl) (by kernel_rfl) (fun t h => by cases h <;> kernel_rfl) (fun h => by first | (cases h; done) | exact ⟨by kernel_rfl, by kernel_rfl⟩)
theorem qaay : TiOk Tryz.prog 50 (mkTI (.func) 1 8 none (.nilf) false) := mkTi (by kernel_rfl) (by kernel_rfl) (by kernel_rfl) (fun t h => by cases h <;> kernel_rfl) (fun h => by first | (cases h; done) | exact ⟨by kernel_rfl, by kernel_rfl⟩)
theorem qaaz : TiOk Tryz.prog 51 (mkTI (.func) 1 8 none (.nilf) false) := mkTi (by kernel_rfl) (by kernel_rfl) (by kernel_rfl) (fun t h => by cases h <;> kernel_rfl) (fun h => by first | (cases h; done) | exact ⟨by kernel_rfl, by kernel_rfl⟩)
theorem qaa0 : TiOk Tryz.prog 52 (mkTI (.arr 3 3) 3 24 (some (.arr 3 (.int .i64))) (.dat (.arr 3 (.int .i64))) true) := mkTi (by kernel_rfl) (by kernel_rfl) (by kernel_rfl) (fun t h => by cases h <;> kernel_rfl) (fun h => by first | (cases h; done) | exact ⟨by kernel_rfl, by kernel_rfl⟩)
theorem qaa1 : TiOk Tryz.prog 53 (mkTI (.str) 1 16 (some .str) (.dat .str) false) := mkTi (by kernel_rfl) (by kernel_rfl) (by kernel_rfl) (fun t h => by cases h <;> kernel_rfl) (fun h => by first | (cases h; done) | exact ⟨by kernel_rfl, by kernel_rfl⟩)
theorem qaa2 : TiOk Tryz.prog 54 (mkTI (.struct [(0, 53), (1, 53)]) 2 32 (some (.prod .str (.prod .str .unit))) (.dat (.prod .str (.prod .str .unit))) true) := mkTi (by kernel_rfl) (by kernel_rfl) (by kernel_rfl) (fun t h => by cases h <;> kernel_rfl) (fun h => by first | (cases h; done) | exact ⟨by kernel_rfl, by kernel_rfl⟩)
theorem qaa3 : TiOk Tryz.prog 55 (mkTI (.struct [(0, 53), (1, 53)]) 2 32 (some (.prod .str (.prod .str .unit))) (.dat (.prod .str (.prod .str .unit))) true) := mkTi (by kernel_rfl) (by kernel_rfl) (by kernel_rfl) (fun t h => by cases h <;> kernel_rfl) (fun h => by first | (cases h; done) | exact ⟨by kernel_rfl, by kernel_rfl⟩)
theorem qaa4 : TiOk Tryz.prog 56 (mkTI (.func) 1 8 none (.nilf) false) := mkTi (by kernel_rfl) (by kernel_rfl) (by kernel_rfl) (fun t h => by cases h <;> kernel_rfl) (fun h => by first | (cases h; done) | exact ⟨by kernel_rfl, by kernel_rfl⟩)
theorem qaa5 : TiOk Tryz.prog 57 (mkTI (.func) 1 8 none (.nilf) false) := mkTi (by kernel_rfl) (by kernel_rfl) (by kernel_rfl) (fun t h => by cases h <;> kernel_rfl) (fun h => by first | (cases h; done) | exact ⟨by kernel_rfl, by kernel_rfl⟩)
theorem qaa6 : TiOk Tryz.prog 58 (mkTI (.func) 1 8 none (.nilf) false) := mkTi (by kernel_rfl) (by kernel_rfl) (by kernel_rfl) (fun t h => by cases h <;> kernel_rfl) (fun h => by first | (cases h; done) | exact ⟨by kernel_rfl, by kernel_rfl⟩)
theorem qaa7 : TiOk Tryz.prog 59 (mkTI (.func) 1 8 none (.nilf) false) := mkTi (by kernel_rfl) (by kernel_rfl) (by kernel_rfl) (fun t h => by cases h <;> kernel_rfl) (fun h => by first | (cases h; done) | exact ⟨by kernel_rfl, by kernel_rfl⟩)
theorem qaa8 : TiOk Tryz.prog 60 (mkTI (.arr 2 38) 6 112 (some (.arr 2 (.prod (.slice (.int .i64)) (.prod (.int .i64) (.prod (.slice (.int .i64)) .unit))))) (.dat (.arr 2 (.prod (.slice (.int .i64)) (.prod (.int .i64) (.prod (.slice (.int .i64)) .unit))))) false) := mkTi (by kernel_rfl) (by kernel_rfl) (by kernel_rfl) (fun t h => by cases h <;> kernel_rfl) (fun h => by first | (cases h; done) | exact ⟨by kernel_rfl, by kernel_rfl⟩)
theorem qaa9 : TiOk Tryz.prog 62 (mkTI (.func) 1 8 none (.nilf) false) := mkTi (by kernel_rfl) (by kernel_rfl) (by kernel_rfl) (fun t h => by cases h <;> kernel_rfl) (fun h => by first | (cases h; done) | exact ⟨by kernel_rfl, by kernel_rfl⟩)
theorem qaba : TiOk Tryz.prog 63 (mkTI (.func) 1 8 none (.nilf) false) := mkTi (by kernel_rfl) (by kernel_rfl) (by kernel_rfl) (fun t h => by cases h <;> kernel_rfl) (fun h => by first | (cases h; done) | exact ⟨by kernel_rfl, by kernel_rfl⟩)
theorem qabb : TiOk Tryz.prog 64 (mkTI (.func) 1 8 none (.nilf) false) := mkTi (by kernel_rfl) (by kernel_rfl) (by kernel_rfl) (fun t h => by cases h <;> kernel_rfl) (fun h => by first | (cases h; done) | exact ⟨by kernel_rfl, by kernel_rfl⟩)
theorem qabc : TiOk Tryz.prog 65 (mkTI (.func) 1 8 none (.nilf) false) := mkTi (by kernel_rfl) (by kernel_rfl) (by kernel_rfl) (fun t h => by cases h <;> kernel_rfl) (fun h => by first | (cases h; done) | exact ⟨by kernel_rfl, by kernel_rfl⟩)
theorem qabd : TiOk Tryz.prog 66 (mkTI (.func) 1 8 none (.nilf) false) := mkTi (by kernel_rfl) (by kernel_rfl) (by kernel_rfl) (fun t h => by cases h <;> kernel_rfl) (fun h => by first | (cases h; done) | exact ⟨by kernel_rfl, by kernel_rfl⟩)
theorem qabe : TiOk Tryz.prog 67 (mkTI (.arr 3 3) 3 24 (some (.arr 3 (.int .i64))) (.dat (.arr 3 (.int .i64))) true) := mkTi (by kernel_rfl) (by kernel_rfl) (by kernel_rfl) (fun t h => by cases h <;> kernel_rfl) (fun h => by first | (cases h; done) | exact ⟨by kernel_rfl, by kernel_rfl⟩)
theorem qabf : TiOk Tryz.prog 68 (mkTI (.arr 4 67) 12 96 (some (.arr 4 (.arr 3 (.int .i64)))) (.dat (.arr 4 (.arr 3 (.int .i64)))) true) := mkTi (by kernel_rfl) (by kernel_rfl) (by kernel_rfl) (fun t h => by cases h <;> kernel_rfl) (fun h => by first | (cases h; done) | exact ⟨by kernel_rfl, by kernel_rfl⟩)
theorem qabg : TiOk Tryz.prog 69 (mkTI (.struct [(0, 67), (3, 67), (6, 68)]) 18 144 (some (.prod (.arr 3 (.int .i64)) (.prod (.arr 3 (.int .i64)) (.prod (.arr 4 (.arr 3 (.int .i64))) .unit)))) (.dat (.prod (.arr 3 (.int .i64)) (.prod (.arr 3 (.int .i64)) (.prod (.arr 4 (.arr 3 (.int .i64))) .unit)))) true) := mkTi (by kernel_rfl) (by kernel_rfl) (by kernel_rfl) (fun t h => by cases h <;> kernel_rfl) (fun h => by first | (cases h; done) | exact ⟨by kernel_rfl, by kernel_rfl⟩)
theorem qabh : TiOk Tryz.prog 70 (mkTI (.struct [(0, 67), (3, 67), (6, 68)]) 18 144 (some (.prod (.arr 3 (.int .i64)) (.prod (.arr 3 (.int .i64)) (.prod (.arr 4 (.arr 3 (.int .i64))) .unit)))) (.dat (.prod (.arr 3 (.int .i64)) (.prod (.arr 3 (.int .i64)) (.prod (.arr 4 (.arr 3 (.int .i64))) .unit)))) true) := mkTi (by kernel_rfl) (by kernel_rfl) (by kernel_rfl) (fun t h => by cases h <;> kernel_rfl) (fun h => by first | (cases h; done) | exact ⟨by kernel_rfl, by kernel_rfl⟩)
theorem qabi : TiOk Tryz.prog 71 (mkTI (.func) 1 8 none (.nilf) false) := mkTi (by kernel_rfl) (by kernel_rfl) (by kernel_rfl) (fun t h => by cases h <;> kernel_rfl) (fun h => by first | (cases h; done) | exact ⟨by kernel_rfl, by kernel_rfl⟩)
theorem qabj : TiOk Tryz.prog 72 (mkTI (.func) 1 8 none (.nilf) false) := mkTi (by kernel_rfl) (by kernel_rfl) (by kernel_rfl) (fun t h => by cases h <;> kernel_rfl) (fun h => by first | (cases h; done) | exact ⟨by kernel_rfl, by kernel_rfl⟩)
theorem qabk : TiOk Tryz.prog 73 (mkTI (.func) 1 8 none (.nilf) false) := mkTi (by kernel_rfl) (by kernel_rfl) (by kernel_rfl) (fun t h => by cases h <;> kernel_rfl) (fun h => by first | (cases h; done) | exact ⟨by kernel_rfl, by kernel_rfl⟩)
theorem qabl : TiOk Tryz.prog 75 (mkTI (.func) 1 8 none (.nilf) false) := mkTi (by kernel_rfl) (by kernel_rfl) (by kernel_rfl) (fun t h => by cases h <;> kernel_rfl) (fun h => by first | (cases h; done) | exact ⟨by kernel_rfl, by kernel_rfl⟩)
theorem qabm : TiOk Tryz.prog 77 (mkTI (.func) 1 8 none (.nilf) false) := mkTi (by kernel_rfl) (by kernel_rfl) (by kernel_rfl) (fun t h => by cases h <;> kernel_rfl) (fun h => by first | (cases h; done) | exact ⟨by kernel_rfl, by kernel_rfl⟩)
theorem qabn : TiOk Tryz.prog 78 (mkTI (.func) 1 8 none (.nilf) false) := mkTi (by kernel_rfl) (by kernel_rfl) (by kernel_rfl) (fun t h => by cases h <;> kernel_rfl) (fun h => by first | (cases h; done) | exact ⟨by kernel_rfl, by kernel_rfl⟩)
theorem qabo : TiOk Tryz.prog 80 (mkTI (.func) 1 8 none (.nilf) false) := mkTi (by kernel_rfl) (by kernel_rfl) (by kernel_rfl) (fun t h => by cases h <;> kernel_rfl) (fun h => by first | (cases h; done) | exact ⟨by kernel_rfl, by kernel_rfl⟩)
theorem qabp : TiOk Tryz.prog 81 (mkTI (.func) 1 8 none (.nilf) false) := mkTi (by kernel_rfl) (by kernel_rfl) (by kernel_rfl) (fun t h => by cases h <;> kernel_rfl) (fun h => by first | (cases h; done) | exact ⟨by kernel_rfl, by kernel_rfl⟩)
theorem qabq : TiOk Tryz.prog 82 (mkTI (.arr 6 52) 18 144 (some (.arr 6 (.arr 3 (.int .i64)))) (.dat (.arr 6 (.arr 3 (.int .i64)))) true) := mkTi (by kernel_rfl) (by kernel_rfl) (by kernel_rfl) (fun t h => by cases h <;> kernel_rfl) (fun h => by first | (cases h; done) | exact ⟨by kernel_rfl, by kernel_rfl⟩)
theorem qabr : TiOk Tryz.prog 83 (mkTI (.func) 1 8 none (.nilf) false) := mkTi (by kernel_rfl) (by kernel_rfl) (by kernel_rfl) (fun t h => by cases h <;> kernel_rfl) (fun h => by first | (cases h; done) | exact ⟨by kernel_rfl, by kernel_rfl⟩)
theorem qabs : TiOk Tryz.prog 84 (mkTI (.ptr) 1 8 none (.nilp) false) := mkTi (by kernel_rfl) (by kernel_rfl) (by kernel_rfl) (fun t h => by cases h <;> kernel_rfl) (fun h => by first | (cases h; done) | exact ⟨by kernel_rfl, by kernel_rfl⟩)
theorem qabt : TiOk Tryz.prog 86 (mkTI (.func) 1 8 none (.nilf) false) := mkTi (by kernel_rfl) (by kernel_rfl) (by kernel_rfl) (fun t h => by cases h <;> kernel_rfl) (fun h => by first | (cases h; done) | exact ⟨by kernel_rfl, by kernel_rfl⟩)
theorem qabu : TiOk Tryz.prog 87 (mkTI (.func) 1 8 none (.nilf) false) := mkTi (by kernel_rfl) (by kernel_rfl) (by kernel_rfl) (fun t h => by cases h <;> kernel_rfl) (fun h => by first | (cases h; done) | exact ⟨by kernel_rfl, by kernel_rfl⟩)
theorem qabv : TiOk Tryz.prog 88 (mkTI (.arr 4 3) 4 32 (some (.arr 4 (.int .i64))) (.dat (.arr 4 (.int .i64))) true) := mkTi (by kernel_rfl) (by kernel_rfl) (by kernel_rfl) (fun t h => by cases h <;> kernel_rfl) (fun h => by first | (cases h; done) | exact ⟨by kernel_rfl, by kernel_rfl⟩)
theorem qabw : TiOk Tryz.prog 89 (mkTI (.arr 4 3) 4 32 (some (.arr 4 (.int .i64))) (.dat (.arr 4 (.int .i64))) true) := mkTi (by kernel_rfl) (by kernel_rfl) (by kernel_rfl) (fun t h => by cases h <;> kernel_rfl) (fun h => by first | (cases h; done) | exact ⟨by kernel_rfl, by kernel_rfl⟩)
theorem qabx : TiOk Tryz.prog 90 (mkTI (.struct [(0, 38), (3, 89), (7, 36), (8, 43)]) 9 136 (some (.prod (.prod (.slice (.int .i64)) (.prod (.int .i64) (.prod (.slice (.int .i64)) .unit))) (.prod (.arr 4 (.int .i64)) (.prod (.slice (.int .i64)) (.prod (.slice (.prod .str (.prod .str .unit))) .unit))))) (.agg [.agg [.nils, .dat (.int .i64), .nils], .dat (.arr 4 (.int .i64)), .nils, .nils]) false) := mkTi (by kernel_rfl) (by kernel_rfl) (by kernel_rfl) (fun t h => by cases h <;> kernel_rfl) (fun h => by first | (cases h; done) | exact ⟨by kernel_rfl, by kernel_rfl⟩)
theorem qaby : TiOk Tryz.prog 91 (mkTI (.struct [(0, 38), (3, 89), (7, 36), (8, 43)]) 9 136 (some (.prod (.prod (.slice (.int .i64)) (.prod (.int .i64) (.prod (.slice (.int .i64)) .unit))) (.prod (.arr 4 (.int .i64)) (.prod (.slice (.int .i64)) (.prod (.slice (.prod .str (.prod .str .unit))) .unit))))) (.agg [.agg [.nils, .dat (.int .i64), .nils], .dat (.arr 4 (.int .i64)), .nils, .nils]) false) := mkTi (by kernel_rfl) (by kernel_rfl) (by kernel_rfl) (fun t h => by cases h <;> kernel_rfl) (fun h => by first | (cases h; done) | exact ⟨by kernel_rfl, by kernel_rfl⟩)
theorem qabz : TiOk Tryz.prog 92 (mkTI (.func) 1 8 none (.nilf) false) := mkTi (by kernel_rfl) (by kernel_rfl) (by kernel_rfl) (fun t h => by cases h <;> kernel_rfl) (fun h => by first | (cases h; done) | exact ⟨by kernel_rfl, by kernel_rfl⟩)
theorem qab0 : TiOk Tryz.prog 93 (mkTI (.func) 1 8 none (.nilf) false) := mkTi (by kernel_rfl) (by kernel_rfl) (by kernel_rfl) (fun t h => by cases h <;> kernel_rfl) (fun h => by first | (cases h; done) | exact ⟨by kernel_rfl, by kernel_rfl⟩)
theorem qab1 : TiOk Tryz.prog 94 (mkTI (.func) 1 8 none (.nilf) false) := mkTi (by kernel_rfl) (by kernel_rfl) (by kernel_rfl) (fun t h => by cases h <;> kernel_rfl) (fun h => by first | (cases h; done) | exact ⟨by kernel_rfl, by kernel_rfl⟩)
theorem qab2 : TiOk Tryz.prog 95 (mkTI (.struct [(0, 4), (1, 36)]) 2 32 (some (.prod .bool (.prod (.slice (.int .i64)) .unit))) (.agg [.dat .bool, .nils]) false) := mkTi (by kernel_rfl) (by kernel_rfl) (by kernel_rfl) (fun t h => by cases h <;> kernel_rfl) (fun h => by first | (cases h; done) | exact ⟨by kernel_rfl, by kernel_rfl⟩)
theorem qab3 : TiOk Tryz.prog 96 (mkTI (.struct [(0, 4), (1, 36)]) 2 32 (some (.prod .bool (.prod (.slice (.int .i64)) .unit))) (.agg [.dat .bool, .nils]) false) := mkTi (by kernel_rfl) (by kernel_rfl) (by kernel_rfl) (fun t h => by cases h <;> kernel_rfl) (fun h => by first | (cases h; done) | exact ⟨by kernel_rfl, by kernel_rfl⟩)
theorem qab4 : TiOk Tryz.prog 97 (mkTI (.struct [(0, 96), (2, 96)]) 4 64 (some (.prod (.prod .bool (.prod (.slice (.int .i64)) .unit)) (.prod (.prod .bool (.prod (.slice (.int .i64)) .unit)) .unit))) (.agg [.agg [.dat .bool, .nils], .agg [.dat .bool, .nils]]) false) := mkTi (by kernel_rfl) (by kernel_rfl) (by kernel_rfl) (fun t h => by cases h <;> kernel_rfl) (fun h => by first | (cases h; done) | exact ⟨by kernel_rfl, by kernel_rfl⟩)
theorem qab5 : TiOk Tryz.prog 98 (mkTI (.struct [(0, 96), (2, 96)]) 4 64 (some (.prod (.prod .bool (.prod (.slice (.int .i64)) .unit)) (.prod (.prod .bool (.prod (.slice (.int .i64)) .unit)) .unit))) (.agg [.agg [.dat .bool, .nils], .agg [.dat .bool, .nils]]) false) := mkTi (by kernel_rfl) (by kernel_rfl) (by kernel_rfl) (fun t h => by cases h <;> kernel_rfl) (fun h => by first | (cases h; done) | exact ⟨by kernel_rfl, by kernel_rfl⟩)
theorem qab6 : TiOk Tryz.prog 99 (mkTI (.func) 1 8 none (.nilf) false) := mkTi (by kernel_rfl) (by kernel_rfl) (by kernel_rfl) (fun t h => by cases h <;> kernel_rfl) (fun h => by first | (cases h; done) | exact ⟨by kernel_rfl, by kernel_rfl⟩)
theorem q5k : TiOk Tryz.prog 100 (mkTI (.func) 1 8 none (.nilf) false) := mkTi (by kernel_rfl) (by kernel_rfl) (by kernel_rfl) (fun t h => by cases h <;> kernel_rfl) (fun h => by first | (cases h; done) | exact ⟨by kernel_rfl, by kernel_rfl⟩)
theorem q5l : TiOk Tryz.prog 101 (mkTI (.func) 1 8 none (.nilf) false) := mkTi (by kernel_rfl) (by kernel_rfl) (by kernel_rfl) (fun t h => by cases h <;> kernel_rfl) (fun h => by first | (cases h; done) | exact ⟨by kernel_rfl, by kernel_rfl⟩)
theorem q5m : TiOk Tryz.prog 102 (mkTI (.func) 1 8 none (.nilf) false) := mkTi (by kernel_rfl) (by kernel_rfl) (by kernel_rfl) (fun t h => by cases h <;> kernel_rfl) (fun h => by first | (cases h; done) | exact ⟨by kernel_rfl, by kernel_rfl⟩)
theorem q5n : TiOk Tryz.prog 103 (mkTI (.func) 1 8 none (.nilf) false) := mkTi (by kernel_rfl) (by kernel_rfl) (by kernel_rfl) (fun t h => by cases h <;> kernel_rfl) (fun h => by first | (cases h; done) | exact ⟨by kernel_rfl, by kernel_rfl⟩)
theorem q5o : TiOk Tryz.prog 104 (mkTI (.arr 6 67) 18 144 (some (.arr 6 (.arr 3 (.int .i64)))) (.dat (.arr 6 (.arr 3 (.int .i64)))) true) := mkTi (by kernel_rfl) (by kernel_rfl) (by kernel_rfl) (fun t h => by cases h <;> kernel_rfl) (fun h => by first | (cases h; done) | exact ⟨by kernel_rfl, by kernel_rfl⟩)
theorem q5p : TiOk Tryz.prog 105 (mkTI (.arr 3 67) 9 72 (some (.arr 3 (.arr 3 (.int .i64)))) (.dat (.arr 3 (.arr 3 (.int .i64)))) true) := mkTi (by kernel_rfl) (by kernel_rfl) (by kernel_rfl) (fun t h => by cases h <;> kernel_rfl) (fun h => by first | (cases h; done) | exact ⟨by kernel_rfl, by kernel_rfl⟩)
theorem q5q : TiOk Tryz.prog 106 (mkTI (.func) 1 8 none (.nilf) false) := mkTi (by kernel_rfl) (by kernel_rfl) (by kernel_rfl) (fun t h => by cases h <;> kernel_rfl) (fun h => by first | (cases h; done) | exact ⟨by kernel_rfl, by kernel_rfl⟩)
theorem q5r : TiOk Tryz.prog 107 (mkTI (.func) 1 8 none (.nilf) false) := mkTi (by kernel_rfl) (by kernel_rfl) (by kernel_rfl) (fun t h => by cases h <;> kernel_rfl) (fun h => by first | (cases h; done) | exact ⟨by kernel_rfl, by kernel_rfl⟩)
theorem q5s : TiOk Tryz.prog 108 (mkTI (.func) 1 8 none (.nilf) false) := mkTi (by kernel_rfl) (by kernel_rfl) (by kernel_rfl) (fun t h => by cases h <;> kernel_rfl) (fun h => by first | (cases h; done) | exact ⟨by kernel_rfl, by kernel_rfl⟩)
theorem q5t : TiOk Tryz.prog 109 (mkTI (.func) 1 8 none (.nilf) false) := mkTi (by kernel_rfl) (by kernel_rfl) (by kernel_rfl) (fun t h => by cases h <;> kernel_rfl) (fun h => by first | (cases h; done) | exact ⟨by kernel_rfl, by kernel_rfl⟩)
theorem q5u : TiOk Tryz.prog 110 (mkTI (.func) 1 8 none (.nilf) false) := mkTi (by kernel_rfl) (by kernel_rfl) (by kernel_rfl) (fun t h => by cases h <;> kernel_rfl) (fun h => by first | (cases h; done) | exact ⟨by kernel_rfl, by kernel_rfl⟩)
theorem q5v : TiOk Tryz.prog 111 (mkTI (.func) 1 8 none (.nilf) false) := mkTi (by kernel_rfl) (by kernel_rfl) (by kernel_rfl) (fun t h => by cases h <;> kernel_rfl) (fun h => by first | (cases h; done) | exact ⟨by kernel_rfl, by kernel_rfl⟩)
theorem q5w : TiOk Tryz.prog 112 (mkTI (.func) 1 8 none (.nilf) false) := mkTi (by kernel_rfl) (by kernel_rfl) (by kernel_rfl) (fun t h => by cases h <;> kernel_rfl) (fun h => by first | (cases h; done) | exact ⟨by kernel_rfl, by kernel_rfl⟩)
theorem q5x : TiOk Tryz.prog 113 (mkTI (.func) 1 8 none (.nilf) false) := mkTi (by kernel_rfl) (by kernel_rfl) (by kernel_rfl) (fun t h => by cases h <;> kernel_rfl) (fun h => by first | (cases h; done) | exact ⟨by kernel_rfl, by kernel_rfl⟩)
theorem q5y : TiOk Tryz.prog 114 (mkTI (.func) 1 8 none (.nilf) false) := mkTi (by kernel_rfl) (by kernel_rfl) (by kernel_rfl) (fun t h => by cases h <;> kernel_rfl) (fun h => by first | (cases h; done) | exact ⟨by kernel_rfl, by kernel_rfl⟩)
theorem q5z : TiOk Tryz.prog 115 (mkTI (.func) 1 8 none (.nilf) false) := mkTi (by kernel_rfl) (by kernel_rfl) (by kernel_rfl) (fun t h => by cases h <;> kernel_rfl) (fun h => by first | (cases h; done) | exact ⟨by kernel_rfl, by kernel_rfl⟩)
theorem q50 : TiOk Tryz.prog 116 (mkTI (.func) 1 8 none (.nilf) false) := mkTi (by kernel_rfl) (by kernel_rfl) (by kernel_rfl) (fun t h => by cases h <;> kernel_rfl) (fun h => by first | (cases h; done) | exact ⟨by kernel_rfl, by kernel_rfl⟩)
theorem q51 : TiOk Tryz.prog 117 (mkTI (.func) 1 8 none (.nilf) false) := mkTi (by kernel_rfl) (by kernel_rfl) (by kernel_rfl) (fun t h => by cases h <;> kernel_rfl) (fun h => by first | (cases h; done) | exact ⟨by kernel_rfl, by kernel_rfl⟩)
theorem q52 : TiOk Tryz.prog 118 (mkTI (.func) 1 8 none (.nilf) false) := mkTi (by kernel_rfl) (by kernel_rfl) (by kernel_rfl) (fun t h => by cases h <;> kernel_rfl) (fun h => by first | (cases h; done) | exact ⟨by kernel_rfl, by kernel_rfl⟩)
theorem q53 : TiOk Tryz.prog 119 (mkTI (.func) 1 8 none (.nilf) false) := mkTi (by kernel_rfl) (by kernel_rfl) (by kernel_rfl) (fun t h => by cases h <;> kernel_rfl) (fun h => by first | (cases h; done) | exact ⟨by kernel_rfl, by kernel_rfl⟩)
theorem q54 : TiOk Tryz.prog 120 (mkTI (.func) 1 8 none (.nilf) false) := mkTi (by kernel_rfl) (by kernel_rfl) (by kernel_rfl) (fun t h => by cases h <;> kernel_rfl) (fun h => by first | (cases h; done) | exact ⟨by kernel_rfl, by kernel_rfl⟩)
theorem q55 : TiOk Tryz.prog 121 (mkTI (.func) 1 8 none (.nilf) false) := mkTi (by kernel_rfl) (by kernel_rfl) (by kernel_rfl) (fun t h => by cases h <;> kernel_rfl) (fun h => by first | (cases h; done) | exact ⟨by kernel_rfl, by kernel_rfl⟩)
theorem q56 : TiOk Tryz.prog 122 (mkTI (.func) 1 8 none (.nilf) false) := mkTi (by kernel_rfl) (by kernel_rfl) (by kernel_rfl) (fun t h => by cases h <;> kernel_rfl) (fun h => by first | (cases h; done) | exact ⟨by kernel_rfl, by kernel_rfl⟩)
theorem q57 : TiOk Tryz.prog 123 (mkTI (.func) 1 8 none (.nilf) false) := mkTi (by kernel_rfl) (by kernel_rfl) (by kernel_rfl) (fun t h => by cases h <;> kernel_rfl) (fun h => by first | (cases h; done) | exact ⟨by kernel_rfl, by kernel_rfl⟩)
theorem q58 : TiOk Tryz.prog 124 (mkTI (.func) 1 8 none (.nilf) false) := mkTi (by kernel_rfl) (by kernel_rfl) (by kernel_rfl) (fun t h => by cases h <;> kernel_rfl) (fun h => by first | (cases h; done) | exact ⟨by kernel_rfl, by kernel_rfl⟩)
theorem q59 : TiOk Tryz.prog 125 (mkTI (.func) 1 8 none (.nilf) false) := mkTi (by kernel_rfl) (by kernel_rfl) (by kernel_rfl) (fun t h => by cases h <;> kernel_rfl) (fun h => by first | (cases h; done) | exact ⟨by kernel_rfl, by kernel_rfl⟩)
theorem q6a : TiOk Tryz.prog 126 (mkTI (.func) 1 8 none (.nilf) false) := mkTi (by kernel_rfl) (by kernel_rfl) (by kernel_rfl) (fun t h => by cases h <;> kernel_rfl) (fun h => by first | (cases h; done) | exact ⟨by kernel_rfl, by kernel_rfl⟩)
theorem q6b : TiOk Tryz.prog 127 (mkTI (.func) 1 8 none (.nilf) false) := mkTi (by kernel_rfl) (by kernel_rfl) (by kernel_rfl) (fun t h => by cases h <;> kernel_rfl) (fun h => by first | (cases h; done) | exact ⟨by kernel_rfl, by kernel_rfl⟩)
theorem q6c : TiOk Tryz.prog 128 (mkTI (.func) 1 8 none (.nilf) false) := mkTi (by kernel_rfl) (by kernel_rfl) (by kernel_rfl) (fun t h => by cases h <;> kernel_rfl) (fun h => by first | (cases h; done) | exact ⟨by kernel_rfl, by kernel_rfl⟩)
theorem q6d : TiOk Tryz.prog 129 (mkTI (.func) 1 8 none (.nilf) false) := mkTi (by kernel_rfl) (by kernel_rfl) (by kernel_rfl) (fun t h => by cases h <;> kernel_rfl) (fun h => by first | (cases h; done) | exact ⟨by kernel_rfl, by kernel_rfl⟩)
theorem q6e : TiOk Tryz.prog 130 (mkTI (.func) 1 8 none (.nilf) false) := mkTi (by kernel_rfl) (by kernel_rfl) (by kernel_rfl) (fun t h => by cases h <;> kernel_rfl) (fun h => by first | (cases h; done) | exact ⟨by kernel_rfl, by kernel_rfl⟩)
theorem q6f : TiOk Tryz.prog 131 (mkTI (.func) 1 8 none (.nilf) false) := mkTi (by kernel_rfl) (by kernel_rfl) (by kernel_rfl) (fun t h => by cases h <;> kernel_rfl) (fun h => by first | (cases h; done) | exact ⟨by kernel_rfl, by kernel_rfl⟩)
theorem q6g : TiOk Tryz.prog 132 (mkTI (.func) 1 8 none (.nilf) false) := mkTi (by kernel_rfl) (by kernel_rfl) (by kernel_rfl) (fun t h => by cases h <;> kernel_rfl) (fun h => by first | (cases h; done) | exact ⟨by kernel_rfl, by kernel_rfl⟩)
theorem q6h : TiOk Tryz.prog 133 (mkTI (.slice 175) 1 24 (some (.slice (.int .u64))) (.nils) false) := mkTi (by kernel_rfl) (by kernel_rfl) (by kernel_rfl) (fun t h => by cases h <;> kernel_rfl) (fun h => by first | (cases h; done) | exact ⟨by kernel_rfl, by kernel_rfl⟩)
theorem q6i : TiOk Tryz.prog 134 (mkTI (.slice 175) 1 24 (some (.slice (.int .u64))) (.nils) false) := mkTi (by kernel_rfl) (by kernel_rfl) (by kernel_rfl) (fun t h => by cases h <;> kernel_rfl) (fun h => by first | (cases h; done) | exact ⟨by kernel_rfl, by kernel_rfl⟩)
theorem q6j : TiOk Tryz.prog 135 (mkTI (.struct [(0, 4), (1, 134)]) 2 32 (some (.prod .bool (.prod (.slice (.int .u64)) .unit))) (.agg [.dat .bool, .nils]) false) := mkTi (by kernel_rfl) (by kernel_rfl) (by kernel_rfl) (fun t h => by cases h <;> kernel_rfl) (fun h => by first | (cases h; done) | exact ⟨by kernel_rfl, by kernel_rfl⟩)
theorem q6k : TiOk Tryz.prog 136 (mkTI (.struct [(0, 4), (1, 134)]) 2 32 (some (.prod .bool (.prod (.slice (.int .u64)) .unit))) (.agg [.dat .bool, .nils]) false) := mkTi (by kernel_rfl) (by kernel_rfl) (by kernel_rfl) (fun t h => by cases h <;> kernel_rfl) (fun h => by first | (cases h; done) | exact ⟨by kernel_rfl, by kernel_rfl⟩)
theorem q6l : TiOk Tryz.prog 137 (mkTI (.func) 1 8 none (.nilf) false) := mkTi (by kernel_rfl) (by kernel_rfl) (by kernel_rfl) (fun t h => by cases h <;> kernel_rfl) (fun h => by first | (cases h; done) | exact ⟨by kernel_rfl, by kernel_rfl⟩)
theorem q6m : TiOk Tryz.prog 138 (mkTI (.func) 1 8 none (.nilf) false) := mkTi (by kernel_rfl) (by kernel_rfl) (by kernel_rfl) (fun t h => by cases h <;> kernel_rfl) (fun h => by first | (cases h; done) | exact ⟨by kernel_rfl, by kernel_rfl⟩)
theorem q6n : TiOk Tryz.prog 139 (mkTI (.struct [(0, 136), (2, 134)]) 3 56 (some (.prod (.prod .bool (.prod (.slice (.int .u64)) .unit)) (.prod (.slice (.int .u64)) .unit))) (.agg [.agg [.dat .bool, .nils], .nils]) false) := mkTi (by kernel_rfl) (by kernel_rfl) (by kernel_rfl) (fun t h => by cases h <;> kernel_rfl) (fun h => by first | (cases h; done) | exact ⟨by kernel_rfl, by kernel_rfl⟩)
theorem q6o : TiOk Tryz.prog 140 (mkTI (.struct [(0, 136), (2, 134)]) 3 56 (some (.prod (.prod .bool (.prod (.slice (.int .u64)) .unit)) (.prod (.slice (.int .u64)) .unit))) (.agg [.agg [.dat .bool, .nils], .nils]) false) := mkTi (by kernel_rfl) (by kernel_rfl) (by kernel_rfl) (fun t h => by cases h <;> kernel_rfl) (fun h => by first | (cases h; done) | exact ⟨by kernel_rfl, by kernel_rfl⟩)
theorem q6p : TiOk Tryz.prog 141 (mkTI (.func) 1 8 none (.nilf) false) := mkTi (by kernel_rfl) (by kernel_rfl) (by kernel_rfl) (fun t h => by cases h <;> kernel_rfl) (fun h => by first | (cases h; done) | exact ⟨by kernel_rfl, by kernel_rfl⟩)
theorem q6q : TiOk Tryz.prog 142 (mkTI (.func) 1 8 none (.nilf) false) := mkTi (by kernel_rfl) (by kernel_rfl) (by kernel_rfl) (fun t h => by cases h <;> kernel_rfl) (fun h => by first | (cases h; done) | exact ⟨by kernel_rfl, by kernel_rfl⟩)
theorem q6r : TiOk Tryz.prog 144 (mkTI (.func) 1 8 none (.nilf) false) := mkTi (by kernel_rfl) (by kernel_rfl) (by kernel_rfl) (fun t h => by cases h <;> kernel_rfl) (fun h => by first | (cases h; done) | exact ⟨by kernel_rfl, by kernel_rfl⟩)
theorem q6s : TiOk Tryz.prog 145 (mkTI (.func) 1 8 none (.nilf) false) := mkTi (by kernel_rfl) (by kernel_rfl) (by kernel_rfl) (fun t h => by cases h <;> kernel_rfl) (fun h => by first | (cases h; done) | exact ⟨by kernel_rfl, by kernel_rfl⟩)
theorem q6t : TiOk Tryz.prog 146 (mkTI (.func) 1 8 none (.nilf) false) := mkTi (by kernel_rfl) (by kernel_rfl) (by kernel_rfl) (fun t h => by cases h <;> kernel_rfl) (fun h => by first | (cases h; done) | exact ⟨by kernel_rfl, by kernel_rfl⟩)
theorem q6u : TiOk Tryz.prog 147 (mkTI (.func) 1 8 none (.nilf) false) := mkTi (by kernel_rfl) (by kernel_rfl) (by kernel_rfl) (fun t h => by cases h <;> kernel_rfl) (fun h => by first | (cases h; done) | exact ⟨by kernel_rfl, by kernel_rfl⟩)
theorem q6v : TiOk Tryz.prog 148 (mkTI (.arr 3 52) 9 72 (some (.arr 3 (.arr 3 (.int .i64)))) (.dat (.arr 3 (.arr 3 (.int .i64)))) true) := mkTi (by kernel_rfl) (by kernel_rfl) (by kernel_rfl) (fun t h => by cases h <;> kernel_rfl) (fun h => by first | (cases h; done) | exact ⟨by kernel_rfl, by kernel_rfl⟩)
theorem q6w : TiOk Tryz.prog 149 (mkTI (.func) 1 8 none (.nilf) false) := mkTi (by kernel_rfl) (by kernel_rfl) (by kernel_rfl) (fun t h => by cases h <;> kernel_rfl) (fun h => by first | (cases h; done) | exact ⟨by kernel_rfl, by kernel_rfl⟩)
theorem q6x : TiOk Tryz.prog 150 (mkTI (.func) 1 8 none (.nilf) false) := mkTi (by kernel_rfl) (by kernel_rfl) (by kernel_rfl) (fun t h => by cases h <;> kernel_rfl) (fun h => by first | (cases h; done) | exact ⟨by kernel_rfl, by kernel_rfl⟩)
theorem q6y : TiOk Tryz.prog 151 (mkTI (.func) 1 8 none (.nilf) false) := mkTi (by kernel_rfl) (by kernel_rfl) (by kernel_rfl) (fun t h => by cases h <;> kernel_rfl) (fun h => by first | (cases h; done) | exact ⟨by kernel_rfl, by kernel_rfl⟩)
theorem q6z : TiOk Tryz.prog 152 (mkTI (.func) 1 8 none (.nilf) false) := mkTi (by kernel_rfl) (by kernel_rfl) (by kernel_rfl) (fun t h => by cases h <;> kernel_rfl) (fun h => by first | (cases h; done) | exact ⟨by kernel_rfl, by kernel_rfl⟩)
theorem q60 : TiOk Tryz.prog 153 (mkTI (.func) 1 8 none (.nilf) false) := mkTi (by kernel_rfl) (by kernel_rfl) (by kernel_rfl) (fun t h => by cases h <;> kernel_rfl) (fun h => by first | (cases h; done) | exact ⟨by kernel_rfl, by kernel_rfl⟩)
theorem q61 : TiOk Tryz.prog 154 (mkTI (.func) 1 8 none (.nilf) false) := mkTi (by kernel_rfl) (by kernel_rfl) (by kernel_rfl) (fun t h => by cases h <;> kernel_rfl) (fun h => by first | (cases h; done) | exact ⟨by kernel_rfl, by kernel_rfl⟩)
theorem q62 : TiOk Tryz.prog 155 (mkTI (.func) 1 8 none (.nilf) false) := mkTi (by kernel_rfl) (by kernel_rfl) (by kernel_rfl) (fun t h => by cases h <;> kernel_rfl) (fun h => by first | (cases h; done) | exact ⟨by kernel_rfl, by kernel_rfl⟩)
theorem q63 : TiOk Tryz.prog 156 (mkTI (.func) 1 8 none (.nilf) false) := mkTi (by kernel_rfl) (by kernel_rfl) (by kernel_rfl) (fun t h => by cases h <;> kernel_rfl) (fun h => by first | (cases h; done) | exact ⟨by kernel_rfl, by kernel_rfl⟩)
theorem q64 : TiOk Tryz.prog 157 (mkTI (.func) 1 8 none (.nilf) false) := mkTi (by kernel_rfl) (by kernel_rfl) (by kernel_rfl) (fun t h => by cases h <;> kernel_rfl) (fun h => by first | (cases h; done) | exact ⟨by kernel_rfl, by kernel_rfl⟩)
theorem q65 : TiOk Tryz.prog 158 (mkTI (.func) 1 8 none (.nilf) false) := mkTi (by kernel_rfl) (by kernel_rfl) (by kernel_rfl) (fun t h => by cases h <;> kernel_rfl) (fun h => by first | (cases h; done) | exact ⟨by kernel_rfl, by kernel_rfl⟩)
theorem q66 : TiOk Tryz.prog 159 (mkTI (.func) 1 8 none (.nilf) false) := mkTi (by kernel_rfl) (by kernel_rfl) (by kernel_rfl) (fun t h => by cases h <;> kernel_rfl) (fun h => by first | (cases h; done) | exact ⟨by kernel_rfl, by kernel_rfl⟩)
theorem q67 : TiOk Tryz.prog 160 (mkTI (.func) 1 8 none (.nilf) false) := mkTi (by kernel_rfl) (by kernel_rfl) (by kernel_rfl) (fun t h => by cases h <;> kernel_rfl) (fun h => by first | (cases h; done) | exact ⟨by kernel_rfl, by kernel_rfl⟩)
theorem q68 : TiOk Tryz.prog 161 (mkTI (.func) 1 8 none (.nilf) false) := mkTi (by kernel_rfl) (by kernel_rfl) (by kernel_rfl) (fun t h => by cases h <;> kernel_rfl) (fun h => by first | (cases h; done) | exact ⟨by kernel_rfl, by kernel_rfl⟩)
theorem q69 : TiOk Tryz.prog 162 (mkTI (.func) 1 8 none (.nilf) false) := mkTi (by kernel_rfl) (by kernel_rfl) (by kernel_rfl) (fun t h => by cases h <;> kernel_rfl) (fun h => by first | (cases h; done) | exact ⟨by kernel_rfl, by kernel_rfl⟩)
theorem q7a : TiOk Tryz.prog 164 (mkTI (.func) 1 8 none (.nilf) false) := mkTi (by kernel_rfl) (by kernel_rfl) (by kernel_rfl) (fun t h => by cases h <;> kernel_rfl) (fun h => by first | (cases h; done) | exact ⟨by kernel_rfl, by kernel_rfl⟩)
theorem q7b : TiOk Tryz.prog 165 (mkTI (.func) 1 8 none (.nilf) false) := mkTi (by kernel_rfl) (by kernel_rfl) (by kernel_rfl) (fun t h => by cases h <;> kernel_rfl) (fun h => by first | (cases h; done) | exact ⟨by kernel_rfl, by kernel_rfl⟩)
theorem q7c : TiOk Tryz.prog 166 (mkTI (.func) 1 8 none (.nilf) false) := mkTi (by kernel_rfl) (by kernel_rfl) (by kernel_rfl) (fun t h => by cases h <;> kernel_rfl) (fun h => by first | (cases h; done) | exact ⟨by kernel_rfl, by kernel_rfl⟩)
theorem q7d : TiOk Tryz.prog 167 (mkTI (.func) 1 8 none (.nilf) false) := mkTi (by kernel_rfl) (by kernel_rfl) (by kernel_rfl) (fun t h => by cases h <;> kernel_rfl) (fun h => by first | (cases h; done) | exact ⟨by kernel_rfl, by kernel_rfl⟩)
theorem q7e : TiOk Tryz.prog 169 (mkTI (.func) 1 8 none (.nilf) false) := mkTi (by kernel_rfl) (by kernel_rfl) (by kernel_rfl) (fun t h => by cases h <;> kernel_rfl) (fun h => by first | (cases h; done) | exact ⟨by kernel_rfl, by kernel_rfl⟩)
theorem q7f : TiOk Tryz.prog 170 (mkTI (.func) 1 8 none (.nilf) false) := mkTi (by kernel_rfl) (by kernel_rfl) (by kernel_rfl) (fun t h => by cases h <;> kernel_rfl) (fun h => by first | (cases h; done) | exact ⟨by kernel_rfl, by kernel_rfl⟩)
theorem q7g : TiOk Tryz.prog 171 (mkTI (.func) 1 8 none (.nilf) false) := mkTi (by kernel_rfl) (by kernel_rfl) (by kernel_rfl) (fun t h => by cases h <;> kernel_rfl) (fun h => by first | (cases h; done) | exact ⟨by kernel_rfl, by kernel_rfl⟩)
theorem q7h : TiOk Tryz.prog 172 (mkTI (.func) 1 8 none (.nilf) false) := mkTi (by kernel_rfl) (by kernel_rfl) (by kernel_rfl) (fun t h => by cases h <;> kernel_rfl) (fun h => by first | (cases h; done) | exact ⟨by kernel_rfl, by kernel_rfl⟩)
theorem q7i : TiOk Tryz.prog 173 (mkTI (.func) 1 8 none (.nilf) false) := mkTi (by kernel_rfl) (by kernel_rfl) (by kernel_rfl) (fun t h => by cases h <;> kernel_rfl) (fun h => by first | (cases h; done) | exact ⟨by kernel_rfl, by kernel_rfl⟩)
theorem q7j : TiOk Tryz.prog 174 (mkTI (.func) 1 8 none (.nilf) false) := mkTi (by kernel_rfl) (by kernel_rfl) (by kernel_rfl) (fun t h => by cases h <;> kernel_rfl) (fun h => by first | (cases h; done) | exact ⟨by kernel_rfl, by kernel_rfl⟩)
theorem q7k : TiOk Tryz.prog 175 (mkTI (.int .u64) 1 8 (some (.int .u64)) (.dat (.int .u64)) false) := mkTi (by kernel_rfl) (by kernel_rfl) (by kernel_rfl) (fun t h => by cases h <;> kernel_rfl) (fun h => by first | (cases h; done) | exact ⟨by kernel_rfl, by kernel_rfl⟩)
theorem q7l : TiOk Tryz.prog 179 (mkTI (.func) 1 8 none (.nilf) false) := mkTi (by kernel_rfl) (by kernel_rfl) (by kernel_rfl) (fun t h => by cases h <;> kernel_rfl) (fun h => by first | (cases h; done) | exact ⟨by kernel_rfl, by kernel_rfl⟩)
theorem q7m : TiOk Tryz.prog 180 (mkTI (.func) 1 8 none (.nilf) false) := mkTi (by kernel_rfl) (by kernel_rfl) (by kernel_rfl) (fun t h => by cases h <;> kernel_rfl) (fun h => by first | (cases h; done) | exact ⟨by kernel_rfl, by kernel_rfl⟩)
theorem q7n : TiOk Tryz.prog 181 (mkTI (.func) 1 8 none (.nilf) false) := mkTi (by kernel_rfl) (by kernel_rfl) (by kernel_rfl) (fun t h => by cases h <;> kernel_rfl) (fun h => by first | (cases h; done) | exact ⟨by kernel_rfl, by kernel_rfl⟩)
theorem q7o : TiOk Tryz.prog 183 (mkTI (.func) 1 8 none (.nilf) false) := mkTi (by kernel_rfl) (by kernel_rfl) (by kernel_rfl) (fun t h => by cases h <;> kernel_rfl) (fun h => by first | (cases h; done) | exact ⟨by kernel_rfl, by kernel_rfl⟩)
theorem q7p : TiOk Tryz.prog 184 (mkTI (.func) 1 8 none (.nilf) false) := mkTi (by kernel_rfl) (by kernel_rfl) (by kernel_rfl) (fun t h => by cases h <;> kernel_rfl) (fun h => by first | (cases h; done) | exact ⟨by kernel_rfl, by kernel_rfl⟩)
theorem q7q : TiOk Tryz.prog 185 (mkTI (.func) 1 8 none (.nilf) false) := mkTi (by kernel_rfl) (by kernel_rfl) (by kernel_rfl) (fun t h => by cases h <;> kernel_rfl) (fun h => by first | (cases h; done) | exact ⟨by kernel_rfl, by kernel_rfl⟩)
theorem q7r : TiOk Tryz.prog 186 (mkTI (.ptr) 1 8 none (.nilp) false) := mkTi (by kernel_rfl) (by kernel_rfl) (by kernel_rfl) (fun t h => by cases h <;> kernel_rfl) (fun h => by first | (cases h; done) | exact ⟨by kernel_rfl, by kernel_rfl⟩)
theorem q7s : TiOk Tryz.prog 187 (mkTI (.struct [(0, 186), (1, 29)]) 2 32 none (.agg [.nilp, .nils]) false) := mkTi (by kernel_rfl) (by kernel_rfl) (by kernel_rfl) (fun t h => by cases h <;> kernel_rfl) (fun h => by first | (cases h; done) | exact ⟨by kernel_rfl, by kernel_rfl⟩)
theorem q7t : TiOk Tryz.prog 188 (mkTI (.struct [(0, 186), (1, 29)]) 2 32 none (.agg [.nilp, .nils]) false) := mkTi (by kernel_rfl) (by kernel_rfl) (by kernel_rfl) (fun t h => by cases h <;> kernel_rfl) (fun h => by first | (cases h; done) | exact ⟨by kernel_rfl, by kernel_rfl⟩)
theorem q7u : TiOk Tryz.prog 189 (mkTI (.func) 1 8 none (.nilf) false) := mkTi (by kernel_rfl) (by kernel_rfl) (by kernel_rfl) (fun t h => by cases h <;> kernel_rfl) (fun h => by first | (cases h; done) | exact ⟨by kernel_rfl, by kernel_rfl⟩)
theorem q7v : TiOk Tryz.prog 191 (mkTI (.func) 1 8 none (.nilf) false) := mkTi (by kernel_rfl) (by kernel_rfl) (by kernel_rfl) (fun t h => by cases h <;> kernel_rfl) (fun h => by first | (cases h; done) | exact ⟨by kernel_rfl, by kernel_rfl⟩)
theorem q7w : TiOk Tryz.prog 192 (mkTI (.func) 1 8 none (.nilf) false) := mkTi (by kernel_rfl) (by kernel_rfl) (by kernel_rfl) (fun t h => by cases h <;> kernel_rfl) (fun h => by first | (cases h; done) | exact ⟨by kernel_rfl, by kernel_rfl⟩)
theorem q7x : TiOk Tryz.prog 193 (mkTI (.func) 1 8 none (.nilf) false) := mkTi (by kernel_rfl) (by kernel_rfl) (by kernel_rfl) (fun t h => by cases h <;> kernel_rfl) (fun h => by first | (cases h; done) | exact ⟨by kernel_rfl, by kernel_rfl⟩)
theorem q7y : TiOk Tryz.prog 194 (mkTI (.func) 1 8 none (.nilf) false) := mkTi (by kernel_rfl) (by kernel_rfl) (by kernel_rfl) (fun t h => by cases h <;> kernel_rfl) (fun h => by first | (cases h; done) | exact ⟨by kernel_rfl, by kernel_rfl⟩)
theorem q7z : TiOk Tryz.prog 195 (mkTI (.func) 1 8 none (.nilf) false) := mkTi (by kernel_rfl) (by kernel_rfl) (by kernel_rfl) (fun t h => by cases h <;> kernel_rfl) (fun h => by first | (cases h; done) | exact ⟨by kernel_rfl, by kernel_rfl⟩)
theorem q70 : TiOk Tryz.prog 196 (mkTI (.func) 1 8 none (.nilf) false) := mkTi (by kernel_rfl) (by kernel_rfl) (by kernel_rfl) (fun t h => by cases h <;> kernel_rfl) (fun h => by first | (cases h; done) | exact ⟨by kernel_rfl, by kernel_rfl⟩)
theorem q71 : TiOk Tryz.prog 197 (mkTI (.func) 1 8 none (.nilf) false) := mkTi (by kernel_rfl) (by kernel_rfl) (by kernel_rfl) (fun t h => by cases h <;> kernel_rfl) (fun h => by first | (cases h; done) | exact ⟨by kernel_rfl, by kernel_rfl⟩)
theorem q72 : TiOk Tryz.prog 199 (mkTI (.func) 1 8 none (.nilf) false) := mkTi (by kernel_rfl) (by kernel_rfl) (by kernel_rfl) (fun t h => by cases h <;> kernel_rfl) (fun h => by first | (cases h; done) | exact ⟨by kernel_rfl, by kernel_rfl⟩)
theorem q73 : TiOk Tryz.prog 200 (mkTI (.func) 1 8 none (.nilf) false) := mkTi (by kernel_rfl) (by kernel_rfl) (by kernel_rfl) (fun t h => by cases h <;> kernel_rfl) (fun h => by first | (cases h; done) | exact ⟨by kernel_rfl, by kernel_rfl⟩)
theorem q74 : TiOk Tryz.prog 201 (mkTI (.func) 1 8 none (.nilf) false) := mkTi (by kernel_rfl) (by kernel_rfl) (by kernel_rfl) (fun t h => by cases h <;> kernel_rfl) (fun h => by first | (cases h; done) | exact ⟨by kernel_rfl, by kernel_rfl⟩)
theorem q75 : TiOk Tryz.prog 202 (mkTI (.func) 1 8 none (.nilf) false) := mkTi (by kernel_rfl) (by kernel_rfl) (by kernel_rfl) (fun t h => by cases h <;> kernel_rfl) (fun h => by first | (cases h; done) | exact ⟨by kernel_rfl, by kernel_rfl⟩)
theorem q76 : TiOk Tryz.prog 203 (mkTI (.struct [(0, 38)]) 3 56 (some (.prod (.prod (.slice (.int .i64)) (.prod (.int .i64) (.prod (.slice (.int .i64)) .unit))) .unit)) (.agg [.agg [.nils, .dat (.int .i64), .nils]]) false) := mkTi (by kernel_rfl) (by kernel_rfl) (by kernel_rfl) (fun t h => by cases h <;> kernel_rfl) (fun h => by first | (cases h; done) | exact ⟨by kernel_rfl, by kernel_rfl⟩)
theorem q77 : TiOk Tryz.prog 204 (mkTI (.struct [(0, 38)]) 3 56 (some (.prod (.prod (.slice (.int .i64)) (.prod (.int .i64) (.prod (.slice (.int .i64)) .unit))) .unit)) (.agg [.agg [.nils, .dat (.int .i64), .nils]]) false) := mkTi (by kernel_rfl) (by kernel_rfl) (by kernel_rfl) (fun t h => by cases h <;> kernel_rfl) (fun h => by first | (cases h; done) | exact ⟨by kernel_rfl, by kernel_rfl⟩)
theorem q78 : TiOk Tryz.prog 205 (mkTI (.arr 4 3) 4 32 (some (.arr 4 (.int .i64))) (.dat (.arr 4 (.int .i64))) true) := mkTi (by kernel_rfl) (by kernel_rfl) (by kernel_rfl) (fun t h => by cases h <;> kernel_rfl) (fun h => by first | (cases h; done) | exact ⟨by kernel_rfl, by kernel_rfl⟩)
theorem q79 : TiOk Tryz.prog 207 (mkTI (.func) 1 8 none (.nilf) false) := mkTi (by kernel_rfl) (by kernel_rfl) (by kernel_rfl) (fun t h => by cases h <;> kernel_rfl) (fun h => by first | (cases h; done) | exact ⟨by kernel_rfl, by kernel_rfl⟩)
theorem q8a : TiOk Tryz.prog 208 (mkTI (.func) 1 8 none (.nilf) false) := mkTi (by kernel_rfl) (by kernel_rfl) (by kernel_rfl) (fun t h => by cases h <;> kernel_rfl) (fun h => by first | (cases h; done) | exact ⟨by kernel_rfl, by kernel_rfl⟩)
theorem q8b : TiOk Tryz.prog 209 (mkTI (.func) 1 8 none (.nilf) false) := mkTi (by kernel_rfl) (by kernel_rfl) (by kernel_rfl) (fun t h => by cases h <;> kernel_rfl) (fun h => by first | (cases h; done) | exact ⟨by kernel_rfl, by kernel_rfl⟩)
theorem q8c : TiOk Tryz.prog 211 (mkTI (.func) 1 8 none (.nilf) false) := mkTi (by kernel_rfl) (by kernel_rfl) (by kernel_rfl) (fun t h => by cases h <;> kernel_rfl) (fun h => by first | (cases h; done) | exact ⟨by kernel_rfl, by kernel_rfl⟩)
theorem q8d : TiOk Tryz.prog 212 (mkTI (.func) 1 8 none (.nilf) false) := mkTi (by kernel_rfl) (by kernel_rfl) (by kernel_rfl) (fun t h => by cases h <;> kernel_rfl) (fun h => by first | (cases h; done) | exact ⟨by kernel_rfl, by kernel_rfl⟩)
theorem q8e : TiOk Tryz.prog 213 (mkTI (.func) 1 8 none (.nilf) false) := mkTi (by kernel_rfl) (by kernel_rfl) (by kernel_rfl) (fun t h => by cases h <;> kernel_rfl) (fun h => by first | (cases h; done) | exact ⟨by kernel_rfl, by kernel_rfl⟩)
theorem q8f : TiOk Tryz.prog 214 (mkTI (.func) 1 8 none (.nilf) false) := mkTi (by kernel_rfl) (by kernel_rfl) (by kernel_rfl) (fun t h => by cases h <;> kernel_rfl) (fun h => by first | (cases h; done) | exact ⟨by kernel_rfl, by kernel_rfl⟩)
theorem q8g : TiOk Tryz.prog 215 (mkTI (.func) 1 8 none (.nilf) false) := mkTi (by kernel_rfl) (by kernel_rfl) (by kernel_rfl) (fun t h => by cases h <;> kernel_rfl) (fun h => by first | (cases h; done) | exact ⟨by kernel_rfl, by kernel_rfl⟩)
theorem q8h : TiOk Tryz.prog 217 (mkTI (.func) 1 8 none (.nilf) false) := mkTi (by kernel_rfl) (by kernel_rfl) (by kernel_rfl) (fun t h => by cases h <;> kernel_rfl) (fun h => by first | (cases h; done) | exact ⟨by kernel_rfl, by kernel_rfl⟩)
theorem q8i : TiOk Tryz.prog 218 (mkTI (.func) 1 8 none (.nilf) false) := mkTi (by kernel_rfl) (by kernel_rfl) (by kernel_rfl) (fun t h => by cases h <;> kernel_rfl) (fun h => by first | (cases h; done) | exact ⟨by kernel_rfl, by kernel_rfl⟩)
theorem q8j : TiOk Tryz.prog 220 (mkTI (.func) 1 8 none (.nilf) false) := mkTi (by kernel_rfl) (by kernel_rfl) (by kernel_rfl) (fun t h => by cases h <;> kernel_rfl) (fun h => by first | (cases h; done) | exact ⟨by kernel_rfl, by kernel_rfl⟩)
theorem q8k : TiOk Tryz.prog 221 (mkTI (.func) 1 8 none (.nilf) false) := mkTi (by kernel_rfl) (by kernel_rfl) (by kernel_rfl) (fun t h => by cases h <;> kernel_rfl) (fun h => by first | (cases h; done) | exact ⟨by kernel_rfl, by kernel_rfl⟩)
theorem q8l : TiOk Tryz.prog 222 (mkTI (.int .u64) 1 8 (some (.int .u64)) (.dat (.int .u64)) false) := mkTi (by kernel_rfl) (by kernel_rfl) (by kernel_rfl) (fun t h => by cases h <;> kernel_rfl) (fun h => by first | (cases h; done) | exact ⟨by kernel_rfl, by kernel_rfl⟩)
theorem q8m : TiOk Tryz.prog 224 (mkTI (.func) 1 8 none (.nilf) false) := mkTi (by kernel_rfl) (by kernel_rfl) (by kernel_rfl) (fun t h => by cases h <;> kernel_rfl) (fun h => by first | (cases h; done) | exact ⟨by kernel_rfl, by kernel_rfl⟩)
theorem q8n : TiOk Tryz.prog 225 (mkTI (.func) 1 8 none (.nilf) false) := mkTi (by kernel_rfl) (by kernel_rfl) (by kernel_rfl) (fun t h => by cases h <;> kernel_rfl) (fun h => by first | (cases h; done) | exact ⟨by kernel_rfl, by kernel_rfl⟩)
theorem q8o : TiOk Tryz.prog 226 (mkTI (.func) 1 8 none (.nilf) false) := mkTi (by kernel_rfl) (by kernel_rfl) (by kernel_rfl) (fun t h => by cases h <;> kernel_rfl) (fun h => by first | (cases h; done) | exact ⟨by kernel_rfl, by kernel_rfl⟩)
theorem q8p : TiOk Tryz.prog 227 (mkTI (.ptr) 1 8 none (.nilp) false) := mkTi (by kernel_rfl) (by kernel_rfl) (by kernel_rfl) (fun t h => by cases h <;> kernel_rfl) (fun h => by first | (cases h; done) | exact ⟨by kernel_rfl, by kernel_rfl⟩)
theorem q8q : TiOk Tryz.prog 228 (mkTI (.func) 1 8 none (.nilf) false) := mkTi (by kernel_rfl) (by kernel_rfl) (by kernel_rfl) (fun t h => by cases h <;> kernel_rfl) (fun h => by first | (cases h; done) | exact ⟨by kernel_rfl, by kernel_rfl⟩)
theorem q8r : TiOk Tryz.prog 229 (mkTI (.func) 1 8 none (.nilf) false) := mkTi (by kernel_rfl) (by kernel_rfl) (by kernel_rfl) (fun t h => by cases h <;> kernel_rfl) (fun h => by first | (cases h; done) | exact ⟨by kernel_rfl, by kernel_rfl⟩)
theorem q8s : TiOk Tryz.prog 230 (mkTI (.int .i64) 1 8 (some (.int .i64)) (.dat (.int .i64)) false) := mkTi (by kernel_rfl) (by kernel_rfl) (by kernel_rfl) (fun t h => by cases h <;> kernel_rfl) (fun h => by first | (cases h; done) | exact ⟨by kernel_rfl, by kernel_rfl⟩)
theorem q8t : TiOk Tryz.prog 231 (mkTI (.func) 1 8 none (.nilf) false) := mkTi (by kernel_rfl) (by kernel_rfl) (by kernel_rfl) (fun t h => by cases h <;> kernel_rfl) (fun h => by first | (cases h; done) | exact ⟨by kernel_rfl, by kernel_rfl⟩)
theorem q8u : TiOk Tryz.prog 232 (mkTI (.func) 1 8 none (.nilf) false) := mkTi (by kernel_rfl) (by kernel_rfl) (by kernel_rfl) (fun t h => by cases h <;> kernel_rfl) (fun h => by first | (cases h; done) | exact ⟨by kernel_rfl, by kernel_rfl⟩)
theorem q8v : TiOk Tryz.prog 233 (mkTI (.ptr) 1 8 none (.nilp) false) := mkTi (by kernel_rfl) (by kernel_rfl) (by kernel_rfl) (fun t h => by cases h <;> kernel_rfl) (fun h => by first | (cases h; done) | exact ⟨by kernel_rfl, by kernel_rfl⟩)
theorem q8w : TiOk Tryz.prog 234 (mkTI (.func) 1 8 none (.nilf) false) := mkTi (by kernel_rfl) (by kernel_rfl) (by kernel_rfl) (fun t h => by cases h <;> kernel_rfl) (fun h => by first | (cases h; done) | exact ⟨by kernel_rfl, by kernel_rfl⟩)
theorem q8x : TiOk Tryz.prog 235 (mkTI (.func) 1 8 none (.nilf) false) := mkTi (by kernel_rfl) (by kernel_rfl) (by kernel_rfl) (fun t h => by cases h <;> kernel_rfl) (fun h => by first | (cases h; done) | exact ⟨by kernel_rfl, by kernel_rfl⟩)
theorem q8y : TiOk Tryz.prog 236 (mkTI (.func) 1 8 none (.nilf) false) := mkTi (by kernel_rfl) (by kernel_rfl) (by kernel_rfl) (fun t h => by cases h <;> kernel_rfl) (fun h => by first | (cases h; done) | exact ⟨by kernel_rfl, by kernel_rfl⟩)
theorem q8z : TiOk Tryz.prog 237 (mkTI (.arr 24 5) 24 24 (some (.arr 24 (.int .u8))) (.dat (.arr 24 (.int .u8))) true) := mkTi (by kernel_rfl) (by kernel_rfl) (by kernel_rfl) (fun t h => by cases h <;> kernel_rfl) (fun h => by first | (cases h; done) | exact ⟨by kernel_rfl, by kernel_rfl⟩)
theorem q80 : TiOk Tryz.prog 238 (mkTI (.func) 1 8 none (.nilf) false) := mkTi (by kernel_rfl) (by kernel_rfl) (by kernel_rfl) (fun t h => by cases h <;> kernel_rfl) (fun h => by first | (cases h; done) | exact ⟨by kernel_rfl, by kernel_rfl⟩)
theorem q81 : TiOk Tryz.prog 240 (mkTI (.func) 1 8 none (.nilf) false) := mkTi (by kernel_rfl) (by kernel_rfl) (by kernel_rfl) (fun t h => by cases h <;> kernel_rfl) (fun h => by first | (cases h; done) | exact ⟨by kernel_rfl, by kernel_rfl⟩)
theorem q82 : TiOk Tryz.prog 242 (mkTI (.func) 1 8 none (.nilf) false) := mkTi (by kernel_rfl) (by kernel_rfl) (by kernel_rfl) (fun t h => by cases h <;> kernel_rfl) (fun h => by first | (cases h; done) | exact ⟨by kernel_rfl, by kernel_rfl⟩)
theorem q83 : TiOk Tryz.prog 243 (mkTI (.int .u32) 1 4 (some (.int .u32)) (.dat (.int .u32)) false) := mkTi (by kernel_rfl) (by kernel_rfl) (by kernel_rfl) (fun t h => by cases h <;> kernel_rfl) (fun h => by first | (cases h; done) | exact ⟨by kernel_rfl, by kernel_rfl⟩)
theorem q84 : TiOk Tryz.prog 245 (mkTI (.func) 1 8 none (.nilf) false) := mkTi (by kernel_rfl) (by kernel_rfl) (by kernel_rfl) (fun t h => by cases h <;> kernel_rfl) (fun h => by first | (cases h; done) | exact ⟨by kernel_rfl, by kernel_rfl⟩)
theorem q85 : TiOk Tryz.prog 246 (mkTI (.func) 1 8 none (.nilf) false) := mkTi (by kernel_rfl) (by kernel_rfl) (by kernel_rfl) (fun t h => by cases h <;> kernel_rfl) (fun h => by first | (cases h; done) | exact ⟨by kernel_rfl, by kernel_rfl⟩)
theorem q86 : TiOk Tryz.prog 249 (mkTI (.func) 1 8 none (.nilf) false) := mkTi (by kernel_rfl) (by kernel_rfl) (by kernel_rfl) (fun t h => by cases h <;> kernel_rfl) (fun h => by first | (cases h; done) | exact ⟨by kernel_rfl, by kernel_rfl⟩)
theorem q87 : TiOk Tryz.prog 250 (mkTI (.func) 1 8 none (.nilf) false) := mkTi (by kernel_rfl) (by kernel_rfl) (by kernel_rfl) (fun t h => by cases h <;> kernel_rfl) (fun h => by first | (cases h; done) | exact ⟨by kernel_rfl, by kernel_rfl⟩)
theorem q88 : TiOk Tryz.prog 251 (mkTI (.arr 20 175) 20 160 (some (.arr 20 (.int .u64))) (.dat (.arr 20 (.int .u64))) true) := mkTi (by kernel_rfl) (by kernel_rfl) (by kernel_rfl) (fun t h => by cases h <;> kernel_rfl) (fun h => by first | (cases h; done) | exact ⟨by kernel_rfl, by kernel_rfl⟩)
theorem q89 : TiOk Tryz.prog 252 (mkTI (.arr 65 5) 65 65 (some (.arr 65 (.int .u8))) (.dat (.arr 65 (.int .u8))) true) := mkTi (by kernel_rfl) (by kernel_rfl) (by kernel_rfl) (fun t h => by cases h <;> kernel_rfl) (fun h => by first | (cases h; done) | exact ⟨by kernel_rfl, by kernel_rfl⟩)
theorem q9a : TiOk Tryz.prog 253 (mkTI (.func) 1 8 none (.nilf) false) := mkTi (by kernel_rfl) (by kernel_rfl) (by kernel_rfl) (fun t h => by cases h <;> kernel_rfl) (fun h => by first | (cases h; done) | exact ⟨by kernel_rfl, by kernel_rfl⟩)
theorem q9b : TiOk Tryz.prog 254 (mkTI (.func) 1 8 none (.nilf) false) := mkTi (by kernel_rfl) (by kernel_rfl) (by kernel_rfl) (fun t h => by cases h <;> kernel_rfl) (fun h => by first | (cases h; done) | exact ⟨by kernel_rfl, by kernel_rfl⟩)
theorem q9c : TiOk Tryz.prog 255 (mkTI (.ptr) 1 8 none (.nilp) false) := mkTi (by kernel_rfl) (by kernel_rfl) (by kernel_rfl) (fun t h => by cases h <;> kernel_rfl) (fun h => by first | (cases h; done) | exact ⟨by kernel_rfl, by kernel_rfl⟩)
theorem q9d : TiOk Tryz.prog 256 (mkTI (.struct [(0, 9)]) 1 16 (some (.prod .str .unit)) (.dat (.prod .str .unit)) true) := mkTi (by kernel_rfl) (by kernel_rfl) (by kernel_rfl) (fun t h => by cases h <;> kernel_rfl) (fun h => by first | (cases h; done) | exact ⟨by kernel_rfl, by kernel_rfl⟩)
theorem q9e : TiOk Tryz.prog 257 (mkTI (.struct [(0, 9)]) 1 16 (some (.prod .str .unit)) (.dat (.prod .str .unit)) true) := mkTi (by kernel_rfl) (by kernel_rfl) (by kernel_rfl) (fun t h => by cases h <;> kernel_rfl) (fun h => by first | (cases h; done) | exact ⟨by kernel_rfl, by kernel_rfl⟩)
theorem q9f : TiOk Tryz.prog 258 (mkTI (.func) 1 8 none (.nilf) false) := mkTi (by kernel_rfl) (by kernel_rfl) (by kernel_rfl) (fun t h => by cases h <;> kernel_rfl) (fun h => by first | (cases h; done) | exact ⟨by kernel_rfl, by kernel_rfl⟩)
theorem q9g : TiOk Tryz.prog 259 (mkTI (.func) 1 8 none (.nilf) false) := mkTi (by kernel_rfl) (by kernel_rfl) (by kernel_rfl) (fun t h => by cases h <;> kernel_rfl) (fun h => by first | (cases h; done) | exact ⟨by kernel_rfl, by kernel_rfl⟩)
theorem q9h : TiOk Tryz.prog 260 (mkTI (.arr 32 5) 32 32 (some (.arr 32 (.int .u8))) (.dat (.arr 32 (.int .u8))) true) := mkTi (by kernel_rfl) (by kernel_rfl) (by kernel_rfl) (fun t h => by cases h <;> kernel_rfl) (fun h => by first | (cases h; done) | exact ⟨by kernel_rfl, by kernel_rfl⟩)
theorem q9i : TiOk Tryz.prog 261 (mkTI (.arr 64 5) 64 64 (some (.arr 64 (.int .u8))) (.dat (.arr 64 (.int .u8))) true) := mkTi (by kernel_rfl) (by kernel_rfl) (by kernel_rfl) (fun t h => by cases h <;> kernel_rfl) (fun h => by first | (cases h; done) | exact ⟨by kernel_rfl, by kernel_rfl⟩)
theorem q9j : TiOk Tryz.prog 262 (mkTI (.struct [(0, 17), (1, 17), (2, 17), (3, 9)]) 4 40 none (.agg [.nilp, .nilp, .nilp, .dat .str]) false) := mkTi (by kernel_rfl) (by kernel_rfl) (by kernel_rfl) (fun t h => by cases h <;> kernel_rfl) (fun h => by first | (cases h; done) | exact ⟨by kernel_rfl, by kernel_rfl⟩)
theorem q9k : TiOk Tryz.prog 263 (mkTI (.struct [(0, 17), (1, 17), (2, 17), (3, 9)]) 4 40 none (.agg [.nilp, .nilp, .nilp, .dat .str]) false) := mkTi (by kernel_rfl) (by kernel_rfl) (by kernel_rfl) (fun t h => by cases h <;> kernel_rfl) (fun h => by first | (cases h; done) | exact ⟨by kernel_rfl, by kernel_rfl⟩)
theorem q9l : TiOk Tryz.prog 267 (mkTI (.int .u8) 1 1 (some (.int .u8)) (.dat (.int .u8)) false) := mkTi (by kernel_rfl) (by kernel_rfl) (by kernel_rfl) (fun t h => by cases h <;> kernel_rfl) (fun h => by first | (cases h; done) | exact ⟨by kernel_rfl, by kernel_rfl⟩)
theorem q9m : TiOk Tryz.prog 268 (mkTI (.int .u8) 1 1 (some (.int .u8)) (.dat (.int .u8)) false) := mkTi (by kernel_rfl) (by kernel_rfl) (by kernel_rfl) (fun t h => by cases h <;> kernel_rfl) (fun h => by first | (cases h; done) | exact ⟨by kernel_rfl, by kernel_rfl⟩)
theorem q9n : TiOk Tryz.prog 269 (mkTI (.func) 1 8 none (.nilf) false) := mkTi (by kernel_rfl) (by kernel_rfl) (by kernel_rfl) (fun t h => by cases h <;> kernel_rfl) (fun h => by first | (cases h; done) | exact ⟨by kernel_rfl, by kernel_rfl⟩)
theorem q9o : TiOk Tryz.prog 270 (mkTI (.int .i32) 1 4 (some (.int .i32)) (.dat (.int .i32)) false) := mkTi (by kernel_rfl) (by kernel_rfl) (by kernel_rfl) (fun t h => by cases h <;> kernel_rfl) (fun h => by first | (cases h; done) | exact ⟨by kernel_rfl, by kernel_rfl⟩)
theorem q9p : TiOk Tryz.prog 271 (mkTI (.int .i32) 1 4 (some (.int .i32)) (.dat (.int .i32)) false) := mkTi (by kernel_rfl) (by kernel_rfl) (by kernel_rfl) (fun t h => by cases h <;> kernel_rfl) (fun h => by first | (cases h; done) | exact ⟨by kernel_rfl, by kernel_rfl⟩)
theorem q9q : TiOk Tryz.prog 272 (mkTI (.struct [(0, 12), (1, 12), (2, 243), (3, 267), (4, 5), (5, 5), (6, 268), (7, 269), (8, 227), (9, 270), (10, 271)]) 11 48 none (.agg [.dat (.int .u64), .dat (.int .u64), .dat (.int .u32), .dat (.int .u8), .dat (.int .u8), .dat (.int .u8), .dat (.int .u8), .nilf, .nilp, .dat (.int .i32), .dat (.int .i32)]) false) := mkTi (by kernel_rfl) (by kernel_rfl) (by kernel_rfl) (fun t h => by cases h <;> kernel_rfl) (fun h => by first | (cases h; done) | exact ⟨by kernel_rfl, by kernel_rfl⟩)
theorem q9r : TiOk Tryz.prog 273 (mkTI (.struct [(0, 12), (1, 12), (2, 243), (3, 267), (4, 5), (5, 5), (6, 268), (7, 269), (8, 227), (9, 270), (10, 271)]) 11 48 none (.agg [.dat (.int .u64), .dat (.int .u64), .dat (.int .u32), .dat (.int .u8), .dat (.int .u8), .dat (.int .u8), .dat (.int .u8), .nilf, .nilp, .dat (.int .i32), .dat (.int .i32)]) false) := mkTi (by kernel_rfl) (by kernel_rfl) (by kernel_rfl) (fun t h => by cases h <;> kernel_rfl) (fun h => by first | (cases h; done) | exact ⟨by kernel_rfl, by kernel_rfl⟩)
set_option maxRecDepth 100000
noncomputable def tyT : Tr TI := (.node (.node (.node (.node (.node (.node (.node (.node .leaf 1 (mkTI (.func) 1 8 none (.nilf) false) .leaf) 2 (mkTI (.int .i64) 1 8 (some (.int .i64)) (.dat (.int .i64)) false) (.node .leaf 3 (mkTI (.int .i64) 1 8 (some (.int .i64)) (.dat (.int .i64)) false) .leaf)) 4 (mkTI (.bool) 1 1 (some .bool) (.dat .bool) true) (.node (.node .leaf 5 (mkTI (.int .u8) 1 1 (some (.int .u8)) (.dat (.int .u8)) false) .leaf) 6 (mkTI (.int .u8) 1 1 (some (.int .u8)) (.dat (.int .u8)) false) (.node .leaf 7 (mkTI (.struct [(0, 2), (1, 3), (2, 4), (3, 6)]) 4 24 (some (.prod (.int .i64) (.prod (.int .i64) (.prod .bool (.prod (.int .u8) .unit))))) (.dat (.prod (.int .i64) (.prod (.int .i64) (.prod .bool (.prod (.int .u8) .unit))))) true) .leaf))) 8 (mkTI (.struct [(0, 2), (1, 3), (2, 4), (3, 6)]) 4 24 (some (.prod (.int .i64) (.prod (.int .i64) (.prod .bool (.prod (.int .u8) .unit))))) (.dat (.prod (.int .i64) (.prod (.int .i64) (.prod .bool (.prod (.int .u8) .unit))))) true) (.node (.node (.node .leaf 9 (mkTI (.str) 1 16 (some .str) (.dat .str) false) .leaf) 10 (mkTI (.str) 1 16 (some .str) (.dat .str) false) (.node .leaf 11 (mkTI (.str) 1 16 (some .str) (.dat .str) false) .leaf)) 12 (mkTI (.int .u64) 1 8 (some (.int .u64)) (.dat (.int .u64)) false) (.node (.node .leaf 13 (mkTI (.struct [(0, 9), (1, 12)]) 2 24 (some (.prod .str (.prod (.int .u64) .unit))) (.dat (.prod .str (.prod (.int .u64) .unit))) false) .leaf) 14 (mkTI (.struct [(0, 9), (1, 12)]) 2 24 (some (.prod .str (.prod (.int .u64) .unit))) (.dat (.prod .str (.prod (.int .u64) .unit))) false) (.node .leaf 15 (mkTI (.ptr) 1 8 none (.nilp) false) .leaf)))) 16 (mkTI (.ptr) 1 8 none (.nilp) false) (.node (.node (.node (.node .leaf 17 (mkTI (.ptr) 1 8 none (.nilp) false) .leaf) 18 (mkTI (.struct [(0, 17)]) 1 8 none (.agg [.nilp]) false) (.node .leaf 19 (mkTI (.struct [(0, 17)]) 1 8 none (.agg [.nilp]) false) .leaf)) 21 (mkTI (.int .i32) 1 4 (some (.int .i32)) (.dat (.int .i32)) false) (.node (.node .leaf 22 (mkTI (.arr 3 5) 3 3 (some (.arr 3 (.int .u8))) (.dat (.arr 3 (.int .u8))) true) .leaf) 23 (mkTI (.int .u16) 1 2 (some (.int .u16)) (.dat (.int .u16)) false) (.node .leaf 24 (mkTI (.arr 3 23) 3 6 (some (.arr 3 (.int .u16))) (.dat (.arr 3 (.int .u16))) true) .leaf))) 25 (mkTI (.arr 3 24) 9 18 (some (.arr 3 (.arr 3 (.int .u16)))) (.dat (.arr 3 (.arr 3 (.int .u16)))) true) (.node (.node (.node .leaf 26 (mkTI (.slice 34) 1 24 (some (.slice (.int .i16))) (.nils) false) .leaf) 27 (mkTI (.struct [(0, 22), (3, 25), (12, 26)]) 13 48 (some (.prod (.arr 3 (.int .u8)) (.prod (.arr 3 (.arr 3 (.int .u16))) (.prod (.slice (.int .i16)) .unit)))) (.agg [.dat (.arr 3 (.int .u8)), .dat (.arr 3 (.arr 3 (.int .u16))), .nils]) false) (.node .leaf 28 (mkTI (.struct [(0, 22), (3, 25), (12, 26)]) 13 48 (some (.prod (.arr 3 (.int .u8)) (.prod (.arr 3 (.arr 3 (.int .u16))) (.prod (.slice (.int .i16)) .unit)))) (.agg [.dat (.arr 3 (.int .u8)), .dat (.arr 3 (.arr 3 (.int .u16))), .nils]) false) .leaf)) 29 (mkTI (.slice 5) 1 24 (some (.slice (.int .u8))) (.nils) false) (.node (.node .leaf 30 (mkTI (.slice 23) 1 24 (some (.slice (.int .u16))) (.nils) false) .leaf) 31 (mkTI (.struct [(0, 29), (1, 5), (2, 30), (3, 4)]) 4 64 (some (.prod (.slice (.int .u8)) (.prod (.int .u8) (.prod (.slice (.int .u16)) (.prod .bool .unit))))) (.agg [.nils, .dat (.int .u8), .nils, .dat .bool]) false) .leaf)))) 32 (mkTI (.struct [(0, 29), (1, 5), (2, 30), (3, 4)]) 4 64 (some (.prod (.slice (.int .u8)) (.prod (.int .u8) (.prod (.slice (.int .u16)) (.prod .bool .unit))))) (.agg [.nils, .dat (.int .u8), .nils, .dat .bool]) false) (.node (.node (.node (.node (.node .leaf 33 (mkTI (.arr 4 5) 4 4 (some (.arr 4 (.int .u8))) (.dat (.arr 4 (.int .u8))) true) .leaf) 34 (mkTI (.int .i16) 1 2 (some (.int .i16)) (.dat (.int .i16)) false) (.node .leaf 35 (mkTI (.arr 3 34) 3 6 (some (.arr 3 (.int .i16))) (.dat (.arr 3 (.int .i16))) true) .leaf)) 36 (mkTI (.slice 3) 1 24 (some (.slice (.int .i64))) (.nils) false) (.node (.node .leaf 37 (mkTI (.struct [(0, 36), (1, 3), (2, 36)]) 3 56 (some (.prod (.slice (.int .i64)) (.prod (.int .i64) (.prod (.slice (.int .i64)) .unit)))) (.agg [.nils, .dat (.int .i64), .nils]) false) .leaf) 38 (mkTI (.struct [(0, 36), (1, 3), (2, 36)]) 3 56 (some (.prod (.slice (.int .i64)) (.prod (.int .i64) (.prod (.slice (.int .i64)) .unit)))) (.agg [.nils, .dat (.int .i64), .nils]) false) (.node .leaf 39 (mkTI (.func) 1 8 none (.nilf) false) .leaf))) 40 (mkTI (.arr 4 38) 12 224 (some (.arr 4 (.prod (.slice (.int .i64)) (.prod (.int .i64) (.prod (.slice (.int .i64)) .unit))))) (.dat (.arr 4 (.prod (.slice (.int .i64)) (.prod (.int .i64) (.prod (.slice (.int .i64)) .unit))))) false) (.node (.node (.node .leaf 41 (mkTI (.func) 1 8 none (.nilf) false) .leaf) 42 (mkTI (.arr 4 36) 4 96 (some (.arr 4 (.slice (.int .i64)))) (.dat (.arr 4 (.slice (.int .i64)))) false) (.node .leaf 43 (mkTI (.slice 55) 1 24 (some (.slice (.prod .str (.prod .str .unit)))) (.nils) false) .leaf)) 44 (mkTI (.int .i64) 1 8 (some (.int .i64)) (.dat (.int .i64)) false) (.node (.node .leaf 46 (mkTI (.func) 1 8 none (.nilf) false) .leaf) 48 (mkTI (.func) 1 8 none (.nilf) false) .leaf))) 49 (mkTI (.func) 1 8 none (.nilf) false) (.node (.node (.node (.node .leaf 50 (mkTI (.func) 1 8 none (.nilf) false) .leaf) 51 (mkTI (.func) 1 8 none (.nilf) false) (.node .leaf 52 (mkTI (.arr 3 3) 3 24 (some (.arr 3 (.int .i64))) (.dat (.arr 3 (.int .i64))) true) .leaf)) 53 (mkTI (.str) 1 16 (some .str) (.dat .str) false) (.node (.node .leaf 54 (mkTI (.struct [(0, 53), (1, 53)]) 2 32 (some (.prod .str (.prod .str .unit))) (.dat (.prod .str (.prod .str .unit))) true) .leaf) 55 (mkTI (.struct [(0, 53), (1, 53)]) 2 32 (some (.prod .str (.prod .str .unit))) (.dat (.prod .str (.prod .str .unit))) true) (.node .leaf 56 (mkTI (.func) 1 8 none (.nilf) false) .leaf))) 57 (mkTI (.func) 1 8 none (.nilf) false) (.node (.node (.node .leaf 58 (mkTI (.func) 1 8 none (.nilf) false) .leaf) 59 (mkTI (.func) 1 8 none (.nilf) false) (.node .leaf 60 (mkTI (.arr 2 38) 6 112 (some (.arr 2 (.prod (.slice (.int .i64)) (.prod (.int .i64) (.prod (.slice (.int .i64)) .unit))))) (.dat (.arr 2 (.prod (.slice (.int .i64)) (.prod (.int .i64) (.prod (.slice (.int .i64)) .unit))))) false) .leaf)) 62 (mkTI (.func) 1 8 none (.nilf) false) (.node (.node .leaf 63 (mkTI (.func) 1 8 none (.nilf) false) .leaf) 64 (mkTI (.func) 1 8 none (.nilf) false) .leaf))))) 65 (mkTI (.func) 1 8 none (.nilf) false) (.node (.node (.node (.node (.node (.node .leaf 66 (mkTI (.func) 1 8 none (.nilf) false) .leaf) 67 (mkTI (.arr 3 3) 3 24 (some (.arr 3 (.int .i64))) (.dat (.arr 3 (.int .i64))) true) (.node .leaf 68 (mkTI (.arr 4 67) 12 96 (some (.arr 4 (.arr 3 (.int .i64)))) (.dat (.arr 4 (.arr 3 (.int .i64)))) true) .leaf)) 69 (mkTI (.struct [(0, 67), (3, 67), (6, 68)]) 18 144 (some (.prod (.arr 3 (.int .i64)) (.prod (.arr 3 (.int .i64)) (.prod (.arr 4 (.arr 3 (.int .i64))) .unit)))) (.dat (.prod (.arr 3 (.int .i64)) (.prod (.arr 3 (.int .i64)) (.prod (.arr 4 (.arr 3 (.int .i64))) .unit)))) true) (.node (.node .leaf 70 (mkTI (.struct [(0, 67), (3, 67), (6, 68)]) 18 144 (some (.prod (.arr 3 (.int .i64)) (.prod (.arr 3 (.int .i64)) (.prod (.arr 4 (.arr 3 (.int .i64))) .unit)))) (.dat (.prod (.arr 3 (.int .i64)) (.prod (.arr 3 (.int .i64)) (.prod (.arr 4 (.arr 3 (.int .i64))) .unit)))) true) .leaf) 71 (mkTI (.func) 1 8 none (.nilf) false) (.node .leaf 72 (mkTI (.func) 1 8 none (.nilf) false) .leaf))) 73 (mkTI (.func) 1 8 none (.nilf) false) (.node (.node (.node .leaf 75 (mkTI (.func) 1 8 none (.nilf) false) .leaf) 77 (mkTI (.func) 1 8 none (.nilf) false) (.node .leaf 78 (mkTI (.func) 1 8 none (.nilf) false) .leaf)) 80 (mkTI (.func) 1 8 none (.nilf) false) (.node (.node .leaf 81 (mkTI (.func) 1 8 none (.nilf) false) .leaf) 82 (mkTI (.arr 6 52) 18 144 (some (.arr 6 (.arr 3 (.int .i64)))) (.dat (.arr 6 (.arr 3 (.int .i64)))) true) (.node .leaf 83 (mkTI (.func) 1 8 none (.nilf) false) .leaf)))) 84 (mkTI (.ptr) 1 8 none (.nilp) false) (.node (.node (.node (.node .leaf 86 (mkTI (.func) 1 8 none (.nilf) false) .leaf) 87 (mkTI (.func) 1 8 none (.nilf) false) (.node .leaf 88 (mkTI (.arr 4 3) 4 32 (some (.arr 4 (.int .i64))) (.dat (.arr 4 (.int .i64))) true) .leaf)) 89 (mkTI (.arr 4 3) 4 32 (some (.arr 4 (.int .i64))) (.dat (.arr 4 (.int .i64))) true) (.node (.node .leaf 90 (mkTI (.struct [(0, 38), (3, 89), (7, 36), (8, 43)]) 9 136 (some (.prod (.prod (.slice (.int .i64)) (.prod (.int .i64) (.prod (.slice (.int .i64)) .unit))) (.prod (.arr 4 (.int .i64)) (.prod (.slice (.int .i64)) (.prod (.slice (.prod .str (.prod .str .unit))) .unit))))) (.agg [.agg [.nils, .dat (.int .i64), .nils], .dat (.arr 4 (.int .i64)), .nils, .nils]) false) .leaf) 91 (mkTI (.struct [(0, 38), (3, 89), (7, 36), (8, 43)]) 9 136 (some (.prod (.prod (.slice (.int .i64)) (.prod (.int .i64) (.prod (.slice (.int .i64)) .unit))) (.prod (.arr 4 (.int .i64)) (.prod (.slice (.int .i64)) (.prod (.slice (.prod .str (.prod .str .unit))) .unit))))) (.agg [.agg [.nils, .dat (.int .i64), .nils], .dat (.arr 4 (.int .i64)), .nils, .nils]) false) (.node .leaf 92 (mkTI (.func) 1 8 none (.nilf) false) .leaf))) 93 (mkTI (.func) 1 8 none (.nilf) false) (.node (.node (.node .leaf 94 (mkTI (.func) 1 8 none (.nilf) false) .leaf) 95 (mkTI (.struct [(0, 4), (1, 36)]) 2 32 (some (.prod .bool (.prod (.slice (.int .i64)) .unit))) (.agg [.dat .bool, .nils]) false) (.node .leaf 96 (mkTI (.struct [(0, 4), (1, 36)]) 2 32 (some (.prod .bool (.prod (.slice (.int .i64)) .unit))) (.agg [.dat .bool, .nils]) false) .leaf)) 97 (mkTI (.struct [(0, 96), (2, 96)]) 4 64 (some (.prod (.prod .bool (.prod (.slice (.int .i64)) .unit)) (.prod (.prod .bool (.prod (.slice (.int .i64)) .unit)) .unit))) (.agg [.agg [.dat .bool, .nils], .agg [.dat .bool, .nils]]) false) (.node (.node .leaf 98 (mkTI (.struct [(0, 96), (2, 96)]) 4 64 (some (.prod (.prod .bool (.prod (.slice (.int .i64)) .unit)) (.prod (.prod .bool (.prod (.slice (.int .i64)) .unit)) .unit))) (.agg [.agg [.dat .bool, .nils], .agg [.dat .bool, .nils]]) false) .leaf) 99 (mkTI (.func) 1 8 none (.nilf) false) .leaf)))) 100 (mkTI (.func) 1 8 none (.nilf) false) (.node (.node (.node (.node (.node .leaf 101 (mkTI (.func) 1 8 none (.nilf) false) .leaf) 102 (mkTI (.func) 1 8 none (.nilf) false) (.node .leaf 103 (mkTI (.func) 1 8 none (.nilf) false) .leaf)) 104 (mkTI (.arr 6 67) 18 144 (some (.arr 6 (.arr 3 (.int .i64)))) (.dat (.arr 6 (.arr 3 (.int .i64)))) true) (.node (.node .leaf 105 (mkTI (.arr 3 67) 9 72 (some (.arr 3 (.arr 3 (.int .i64)))) (.dat (.arr 3 (.arr 3 (.int .i64)))) true) .leaf) 106 (mkTI (.func) 1 8 none (.nilf) false) (.node .leaf 107 (mkTI (.func) 1 8 none (.nilf) false) .leaf))) 108 (mkTI (.func) 1 8 none (.nilf) false) (.node (.node (.node .leaf 109 (mkTI (.func) 1 8 none (.nilf) false) .leaf) 110 (mkTI (.func) 1 8 none (.nilf) false) (.node .leaf 111 (mkTI (.func) 1 8 none (.nilf) false) .leaf)) 112 (mkTI (.func) 1 8 none (.nilf) false) (.node (.node .leaf 113 (mkTI (.func) 1 8 none (.nilf) false) .leaf) 114 (mkTI (.func) 1 8 none (.nilf) false) .leaf))) 115 (mkTI (.func) 1 8 none (.nilf) false) (.node (.node (.node (.node .leaf 116 (mkTI (.func) 1 8 none (.nilf) false) .leaf) 117 (mkTI (.func) 1 8 none (.nilf) false) (.node .leaf 118 (mkTI (.func) 1 8 none (.nilf) false) .leaf)) 119 (mkTI (.func) 1 8 none (.nilf) false) (.node (.node .leaf 120 (mkTI (.func) 1 8 none (.nilf) false) .leaf) 121 (mkTI (.func) 1 8 none (.nilf) false) (.node .leaf 122 (mkTI (.func) 1 8 none (.nilf) false) .leaf))) 123 (mkTI (.func) 1 8 none (.nilf) false) (.node (.node (.node .leaf 124 (mkTI (.func) 1 8 none (.nilf) false) .leaf) 125 (mkTI (.func) 1 8 none (.nilf) false) (.node .leaf 126 (mkTI (.func) 1 8 none (.nilf) false) .leaf)) 127 (mkTI (.func) 1 8 none (.nilf) false) (.node (.node .leaf 128 (mkTI (.func) 1 8 none (.nilf) false) .leaf) 129 (mkTI (.func) 1 8 none (.nilf) false) .leaf)))))) 130 (mkTI (.func) 1 8 none (.nilf) false) (.node (.node (.node (.node (.node (.node (.node .leaf 131 (mkTI (.func) 1 8 none (.nilf) false) .leaf) 132 (mkTI (.func) 1 8 none (.nilf) false) (.node .leaf 133 (mkTI (.slice 175) 1 24 (some (.slice (.int .u64))) (.nils) false) .leaf)) 134 (mkTI (.slice 175) 1 24 (some (.slice (.int .u64))) (.nils) false) (.node (.node .leaf 135 (mkTI (.struct [(0, 4), (1, 134)]) 2 32 (some (.prod .bool (.prod (.slice (.int .u64)) .unit))) (.agg [.dat .bool, .nils]) false) .leaf) 136 (mkTI (.struct [(0, 4), (1, 134)]) 2 32 (some (.prod .bool (.prod (.slice (.int .u64)) .unit))) (.agg [.dat .bool, .nils]) false) (.node .leaf 137 (mkTI (.func) 1 8 none (.nilf) false) .leaf))) 138 (mkTI (.func) 1 8 none (.nilf) false) (.node (.node (.node .leaf 139 (mkTI (.struct [(0, 136), (2, 134)]) 3 56 (some (.prod (.prod .bool (.prod (.slice (.int .u64)) .unit)) (.prod (.slice (.int .u64)) .unit))) (.agg [.agg [.dat .bool, .nils], .nils]) false) .leaf) 140 (mkTI (.struct [(0, 136), (2, 134)]) 3 56 (some (.prod (.prod .bool (.prod (.slice (.int .u64)) .unit)) (.prod (.slice (.int .u64)) .unit))) (.agg [.agg [.dat .bool, .nils], .nils]) false) (.node .leaf 141 (mkTI (.func) 1 8 none (.nilf) false) .leaf)) 142 (mkTI (.func) 1 8 none (.nilf) false) (.node (.node .leaf 144 (mkTI (.func) 1 8 none (.nilf) false) .leaf) 145 (mkTI (.func) 1 8 none (.nilf) false) (.node .leaf 146 (mkTI (.func) 1 8 none (.nilf) false) .leaf)))) 147 (mkTI (.func) 1 8 none (.nilf) false) (.node (.node (.node (.node .leaf 148 (mkTI (.arr 3 52) 9 72 (some (.arr 3 (.arr 3 (.int .i64)))) (.dat (.arr 3 (.arr 3 (.int .i64)))) true) .leaf) 149 (mkTI (.func) 1 8 none (.nilf) false) (.node .leaf 150 (mkTI (.func) 1 8 none (.nilf) false) .leaf)) 151 (mkTI (.func) 1 8 none (.nilf) false) (.node (.node .leaf 152 (mkTI (.func) 1 8 none (.nilf) false) .leaf) 153 (mkTI (.func) 1 8 none (.nilf) false) (.node .leaf 154 (mkTI (.func) 1 8 none (.nilf) false) .leaf))) 155 (mkTI (.func) 1 8 none (.nilf) false) (.node (.node (.node .leaf 156 (mkTI (.func) 1 8 none (.nilf) false) .leaf) 157 (mkTI (.func) 1 8 none (.nilf) false) (.node .leaf 158 (mkTI (.func) 1 8 none (.nilf) false) .leaf)) 159 (mkTI (.func) 1 8 none (.nilf) false) (.node (.node .leaf 160 (mkTI (.func) 1 8 none (.nilf) false) .leaf) 161 (mkTI (.func) 1 8 none (.nilf) false) .leaf)))) 162 (mkTI (.func) 1 8 none (.nilf) false) (.node (.node (.node (.node (.node .leaf 164 (mkTI (.func) 1 8 none (.nilf) false) .leaf) 165 (mkTI (.func) 1 8 none (.nilf) false) (.node .leaf 166 (mkTI (.func) 1 8 none (.nilf) false) .leaf)) 167 (mkTI (.func) 1 8 none (.nilf) false) (.node (.node .leaf 169 (mkTI (.func) 1 8 none (.nilf) false) .leaf) 170 (mkTI (.func) 1 8 none (.nilf) false) (.node .leaf 171 (mkTI (.func) 1 8 none (.nilf) false) .leaf))) 172 (mkTI (.func) 1 8 none (.nilf) false) (.node (.node (.node .leaf 173 (mkTI (.func) 1 8 none (.nilf) false) .leaf) 174 (mkTI (.func) 1 8 none (.nilf) false) (.node .leaf 175 (mkTI (.int .u64) 1 8 (some (.int .u64)) (.dat (.int .u64)) false) .leaf)) 179 (mkTI (.func) 1 8 none (.nilf) false) (.node (.node .leaf 180 (mkTI (.func) 1 8 none (.nilf) false) .leaf) 181 (mkTI (.func) 1 8 none (.nilf) false) .leaf))) 183 (mkTI (.func) 1 8 none (.nilf) false) (.node (.node (.node (.node .leaf 184 (mkTI (.func) 1 8 none (.nilf) false) .leaf) 185 (mkTI (.func) 1 8 none (.nilf) false) (.node .leaf 186 (mkTI (.ptr) 1 8 none (.nilp) false) .leaf)) 187 (mkTI (.struct [(0, 186), (1, 29)]) 2 32 none (.agg [.nilp, .nils]) false) (.node (.node .leaf 188 (mkTI (.struct [(0, 186), (1, 29)]) 2 32 none (.agg [.nilp, .nils]) false) .leaf) 189 (mkTI (.func) 1 8 none (.nilf) false) (.node .leaf 191 (mkTI (.func) 1 8 none (.nilf) false) .leaf))) 192 (mkTI (.func) 1 8 none (.nilf) false) (.node (.node (.node .leaf 193 (mkTI (.func) 1 8 none (.nilf) false) .leaf) 194 (mkTI (.func) 1 8 none (.nilf) false) (.node .leaf 195 (mkTI (.func) 1 8 none (.nilf) false) .leaf)) 196 (mkTI (.func) 1 8 none (.nilf) false) (.node (.node .leaf 197 (mkTI (.func) 1 8 none (.nilf) false) .leaf) 199 (mkTI (.func) 1 8 none (.nilf) false) .leaf))))) 200 (mkTI (.func) 1 8 none (.nilf) false) (.node (.node (.node (.node (.node (.node .leaf 201 (mkTI (.func) 1 8 none (.nilf) false) .leaf) 202 (mkTI (.func) 1 8 none (.nilf) false) (.node .leaf 203 (mkTI (.struct [(0, 38)]) 3 56 (some (.prod (.prod (.slice (.int .i64)) (.prod (.int .i64) (.prod (.slice (.int .i64)) .unit))) .unit)) (.agg [.agg [.nils, .dat (.int .i64), .nils]]) false) .leaf)) 204 (mkTI (.struct [(0, 38)]) 3 56 (some (.prod (.prod (.slice (.int .i64)) (.prod (.int .i64) (.prod (.slice (.int .i64)) .unit))) .unit)) (.agg [.agg [.nils, .dat (.int .i64), .nils]]) false) (.node (.node .leaf 205 (mkTI (.arr 4 3) 4 32 (some (.arr 4 (.int .i64))) (.dat (.arr 4 (.int .i64))) true) .leaf) 207 (mkTI (.func) 1 8 none (.nilf) false) (.node .leaf 208 (mkTI (.func) 1 8 none (.nilf) false) .leaf))) 209 (mkTI (.func) 1 8 none (.nilf) false) (.node (.node (.node .leaf 211 (mkTI (.func) 1 8 none (.nilf) false) .leaf) 212 (mkTI (.func) 1 8 none (.nilf) false) (.node .leaf 213 (mkTI (.func) 1 8 none (.nilf) false) .leaf)) 214 (mkTI (.func) 1 8 none (.nilf) false) (.node (.node .leaf 215 (mkTI (.func) 1 8 none (.nilf) false) .leaf) 217 (mkTI (.func) 1 8 none (.nilf) false) (.node .leaf 218 (mkTI (.func) 1 8 none (.nilf) false) .leaf)))) 220 (mkTI (.func) 1 8 none (.nilf) false) (.node (.node (.node (.node .leaf 221 (mkTI (.func) 1 8 none (.nilf) false) .leaf) 222 (mkTI (.int .u64) 1 8 (some (.int .u64)) (.dat (.int .u64)) false) (.node .leaf 224 (mkTI (.func) 1 8 none (.nilf) false) .leaf)) 225 (mkTI (.func) 1 8 none (.nilf) false) (.node (.node .leaf 226 (mkTI (.func) 1 8 none (.nilf) false) .leaf) 227 (mkTI (.ptr) 1 8 none (.nilp) false) (.node .leaf 228 (mkTI (.func) 1 8 none (.nilf) false) .leaf))) 229 (mkTI (.func) 1 8 none (.nilf) false) (.node (.node (.node .leaf 230 (mkTI (.int .i64) 1 8 (some (.int .i64)) (.dat (.int .i64)) false) .leaf) 231 (mkTI (.func) 1 8 none (.nilf) false) (.node .leaf 232 (mkTI (.func) 1 8 none (.nilf) false) .leaf)) 233 (mkTI (.ptr) 1 8 none (.nilp) false) (.node (.node .leaf 234 (mkTI (.func) 1 8 none (.nilf) false) .leaf) 235 (mkTI (.func) 1 8 none (.nilf) false) .leaf)))) 236 (mkTI (.func) 1 8 none (.nilf) false) (.node (.node (.node (.node (.node .leaf 237 (mkTI (.arr 24 5) 24 24 (some (.arr 24 (.int .u8))) (.dat (.arr 24 (.int .u8))) true) .leaf) 238 (mkTI (.func) 1 8 none (.nilf) false) (.node .leaf 240 (mkTI (.func) 1 8 none (.nilf) false) .leaf)) 242 (mkTI (.func) 1 8 none (.nilf) false) (.node (.node .leaf 243 (mkTI (.int .u32) 1 4 (some (.int .u32)) (.dat (.int .u32)) false) .leaf) 245 (mkTI (.func) 1 8 none (.nilf) false) (.node .leaf 246 (mkTI (.func) 1 8 none (.nilf) false) .leaf))) 249 (mkTI (.func) 1 8 none (.nilf) false) (.node (.node (.node .leaf 250 (mkTI (.func) 1 8 none (.nilf) false) .leaf) 251 (mkTI (.arr 20 175) 20 160 (some (.arr 20 (.int .u64))) (.dat (.arr 20 (.int .u64))) true) (.node .leaf 252 (mkTI (.arr 65 5) 65 65 (some (.arr 65 (.int .u8))) (.dat (.arr 65 (.int .u8))) true) .leaf)) 253 (mkTI (.func) 1 8 none (.nilf) false) (.node (.node .leaf 254 (mkTI (.func) 1 8 none (.nilf) false) .leaf) 255 (mkTI (.ptr) 1 8 none (.nilp) false) .leaf))) 256 (mkTI (.struct [(0, 9)]) 1 16 (some (.prod .str .unit)) (.dat (.prod .str .unit)) true) (.node (.node (.node (.node .leaf 257 (mkTI (.struct [(0, 9)]) 1 16 (some (.prod .str .unit)) (.dat (.prod .str .unit)) true) .leaf) 258 (mkTI (.func) 1 8 none (.nilf) false) (.node .leaf 259 (mkTI (.func) 1 8 none (.nilf) false) .leaf)) 260 (mkTI (.arr 32 5) 32 32 (some (.arr 32 (.int .u8))) (.dat (.arr 32 (.int .u8))) true) (.node (.node .leaf 261 (mkTI (.arr 64 5) 64 64 (some (.arr 64 (.int .u8))) (.dat (.arr 64 (.int .u8))) true) .leaf) 262 (mkTI (.struct [(0, 17), (1, 17), (2, 17), (3, 9)]) 4 40 none (.agg [.nilp, .nilp, .nilp, .dat .str]) false) (.node .leaf 263 (mkTI (.struct [(0, 17), (1, 17), (2, 17), (3, 9)]) 4 40 none (.agg [.nilp, .nilp, .nilp, .dat .str]) false) .leaf))) 267 (mkTI (.int .u8) 1 1 (some (.int .u8)) (.dat (.int .u8)) false) (.node (.node (.node .leaf 268 (mkTI (.int .u8) 1 1 (some (.int .u8)) (.dat (.int .u8)) false) .leaf) 269 (mkTI (.func) 1 8 none (.nilf) false) (.node .leaf 270 (mkTI (.int .i32) 1 4 (some (.int .i32)) (.dat (.int .i32)) false) .leaf)) 271 (mkTI (.int .i32) 1 4 (some (.int .i32)) (.dat (.int .i32)) false) (.node (.node .leaf 272 (mkTI (.struct [(0, 12), (1, 12), (2, 243), (3, 267), (4, 5), (5, 5), (6, 268), (7, 269), (8, 227), (9, 270), (10, 271)]) 11 48 none (.agg [.dat (.int .u64), .dat (.int .u64), .dat (.int .u32), .dat (.int .u8), .dat (.int .u8), .dat (.int .u8), .dat (.int .u8), .nilf, .nilp, .dat (.int .i32), .dat (.int .i32)]) false) .leaf) 273 (mkTI (.struct [(0, 12), (1, 12), (2, 243), (3, 267), (4, 5), (5, 5), (6, 268), (7, 269), (8, 227), (9, 270), (10, 271)]) 11 48 none (.agg [.dat (.int .u64), .dat (.int .u64), .dat (.int .u32), .dat (.int .u8), .dat (.int .u8), .dat (.int .u8), .dat (.int .u8), .nilf, .nilp, .dat (.int .i32), .dat (.int .i32)]) false) .leaf)))))))
theorem qacj : ∀ T d, tyT.get T = some d → TiOk Tryz.prog T d := (tr_node (tr_node (tr_node (tr_node (tr_node (tr_node (tr_node (tr_node tr_leaf qaca tr_leaf) qacb (tr_node tr_leaf qacc tr_leaf)) qacd (tr_node (tr_node tr_leaf qace tr_leaf) qacf (tr_node tr_leaf qacg tr_leaf))) qach (tr_node (tr_node (tr_node tr_leaf qaci tr_leaf) q9x (tr_node tr_leaf q9y tr_leaf)) q9z (tr_node (tr_node tr_leaf q90 tr_leaf) q91 (tr_node tr_leaf q92 tr_leaf)))) q93 (tr_node (tr_node (tr_node (tr_node tr_leaf q94 tr_leaf) q95 (tr_node tr_leaf q96 tr_leaf)) q97 (tr_node (tr_node tr_leaf q98 tr_leaf) q99 (tr_node tr_leaf qaaa tr_leaf))) qaab (tr_node (tr_node (tr_node tr_leaf qaac tr_leaf) qaad (tr_node tr_leaf qaae tr_leaf)) qaaf (tr_node (tr_node tr_leaf qaag tr_leaf) qaah tr_leaf)))) qaai (tr_node (tr_node (tr_node (tr_node (tr_node tr_leaf qaaj tr_leaf) qaak (tr_node tr_leaf qaal tr_leaf)) qaam (tr_node (tr_node tr_leaf qaan tr_leaf) qaao (tr_node tr_leaf qaap tr_leaf))) qaaq (tr_node (tr_node (tr_node tr_leaf qaar tr_leaf) qaas (tr_node tr_leaf qaat tr_leaf)) qaau (tr_node (tr_node tr_leaf qaav tr_leaf) qaaw tr_leaf))) qaax (tr_node (tr_node (tr_node (tr_node tr_leaf qaay tr_leaf) qaaz (tr_node tr_leaf qaa0 tr_leaf)) qaa1 (tr_node (tr_node tr_leaf qaa2 tr_leaf) qaa3 (tr_node tr_leaf qaa4 tr_leaf))) qaa5 (tr_node (tr_node (tr_node tr_leaf qaa6 tr_leaf) qaa7 (tr_node tr_leaf qaa8 tr_leaf)) qaa9 (tr_node (tr_node tr_leaf qaba tr_leaf) qabb tr_leaf))))) qabc (tr_node (tr_node (tr_node (tr_node (tr_node (tr_node tr_leaf qabd tr_leaf) qabe (tr_node tr_leaf qabf tr_leaf)) qabg (tr_node (tr_node tr_leaf qabh tr_leaf) qabi (tr_node tr_leaf qabj tr_leaf))) qabk (tr_node (tr_node (tr_node tr_leaf qabl tr_leaf) qabm (tr_node tr_leaf qabn tr_leaf)) qabo (tr_node (tr_node tr_leaf qabp tr_leaf) qabq (tr_node tr_leaf qabr tr_leaf)))) qabs (tr_node (tr_node (tr_node (tr_node tr_leaf qabt tr_leaf) qabu (tr_node tr_leaf qabv tr_leaf)) qabw (tr_node (tr_node tr_leaf qabx tr_leaf) qaby (tr_node tr_leaf qabz tr_leaf))) qab0 (tr_node (tr_node (tr_node tr_leaf qab1 tr_leaf) qab2 (tr_node tr_leaf qab3 tr_leaf)) qab4 (tr_node (tr_node tr_leaf qab5 tr_leaf) qab6 tr_leaf)))) q5k (tr_node (tr_node (tr_node (tr_node (tr_node tr_leaf q5l tr_leaf) q5m (tr_node tr_leaf q5n tr_leaf)) q5o (tr_node (tr_node tr_leaf q5p tr_leaf) q5q (tr_node tr_leaf q5r tr_leaf))) q5s (tr_node (tr_node (tr_node tr_leaf q5t tr_leaf) q5u (tr_node tr_leaf q5v tr_leaf)) q5w (tr_node (tr_node tr_leaf q5x tr_leaf) q5y tr_leaf))) q5z (tr_node (tr_node (tr_node (tr_node tr_leaf q50 tr_leaf) q51 (tr_node tr_leaf q52 tr_leaf)) q53 (tr_node (tr_node tr_leaf q54 tr_leaf) q55 (tr_node tr_leaf q56 tr_leaf))) q57 (tr_node (tr_node (tr_node tr_leaf q58 tr_leaf) q59 (tr_node tr_leaf q6a tr_leaf)) q6b (tr_node (tr_node tr_leaf q6c tr_leaf) q6d tr_leaf)))))) q6e (tr_node (tr_node (tr_node (tr_node (tr_node (tr_node (tr_node tr_leaf q6f tr_leaf) q6g (tr_node tr_leaf q6h tr_leaf)) q6i (tr_node (tr_node tr_leaf q6j tr_leaf) q6k (tr_node tr_leaf q6l tr_leaf))) q6m (tr_node (tr_node (tr_node tr_leaf q6n tr_leaf) q6o (tr_node tr_leaf q6p tr_leaf)) q6q (tr_node (tr_node tr_leaf q6r tr_leaf) q6s (tr_node tr_leaf q6t tr_leaf)))) q6u (tr_node (tr_node (tr_node (tr_node tr_leaf q6v tr_leaf) q6w (tr_node tr_leaf q6x tr_leaf)) q6y (tr_node (tr_node tr_leaf q6z tr_leaf) q60 (tr_node tr_leaf q61 tr_leaf))) q62 (tr_node (tr_node (tr_node tr_leaf q63 tr_leaf) q64 (tr_node tr_leaf q65 tr_leaf)) q66 (tr_node (tr_node tr_leaf q67 tr_leaf) q68 tr_leaf)))) q69 (tr_node (tr_node (tr_node (tr_node (tr_node tr_leaf q7a tr_leaf) q7b (tr_node tr_leaf q7c tr_leaf)) q7d (tr_node (tr_node tr_leaf q7e tr_leaf) q7f (tr_node tr_leaf q7g tr_leaf))) q7h (tr_node (tr_node (tr_node tr_leaf q7i tr_leaf) q7j (tr_node tr_leaf q7k tr_leaf)) q7l (tr_node (tr_node tr_leaf q7m tr_leaf) q7n tr_leaf))) q7o (tr_node (tr_node (tr_node (tr_node tr_leaf q7p tr_leaf) q7q (tr_node tr_leaf q7r tr_leaf)) q7s (tr_node (tr_node tr_leaf q7t tr_leaf) q7u (tr_node tr_leaf q7v tr_leaf))) q7w (tr_node (tr_node (tr_node tr_leaf q7x tr_leaf) q7y (tr_node tr_leaf q7z tr_leaf)) q70 (tr_node (tr_node tr_leaf q71 tr_leaf) q72 tr_leaf))))) q73 (tr_node (tr_node (tr_node (tr_node (tr_node (tr_node tr_leaf q74 tr_leaf) q75 (tr_node tr_leaf q76 tr_leaf)) q77 (tr_node (tr_node tr_leaf q78 tr_leaf) q79 (tr_node tr_leaf q8a tr_leaf))) q8b (tr_node (tr_node (tr_node tr_leaf q8c tr_leaf) q8d (tr_node tr_leaf q8e tr_leaf)) q8f (tr_node (tr_node tr_leaf q8g tr_leaf) q8h (tr_node tr_leaf q8i tr_leaf)))) q8j (tr_node (tr_node (tr_node (tr_node tr_leaf q8k tr_leaf) q8l (tr_node tr_leaf q8m tr_leaf)) q8n (tr_node (tr_node tr_leaf q8o tr_leaf) q8p (tr_node tr_leaf q8q tr_leaf))) q8r (tr_node (tr_node (tr_node tr_leaf q8s tr_leaf) q8t (tr_node tr_leaf q8u tr_leaf)) q8v (tr_node (tr_node tr_leaf q8w tr_leaf) q8x tr_leaf)))) q8y (tr_node (tr_node (tr_node (tr_node (tr_node tr_leaf q8z tr_leaf) q80 (tr_node tr_leaf q81 tr_leaf)) q82 (tr_node (tr_node tr_leaf q83 tr_leaf) q84 (tr_node tr_leaf q85 tr_leaf))) q86 (tr_node (tr_node (tr_node tr_leaf q87 tr_leaf) q88 (tr_node tr_leaf q89 tr_leaf)) q9a (tr_node (tr_node tr_leaf q9b tr_leaf) q9c tr_leaf))) q9d (tr_node (tr_node (tr_node (tr_node tr_leaf q9e tr_leaf) q9f (tr_node tr_leaf q9g tr_leaf)) q9h (tr_node (tr_node tr_leaf q9i tr_leaf) q9j (tr_node tr_leaf q9k tr_leaf))) q9l (tr_node (tr_node (tr_node tr_leaf q9m tr_leaf) q9n (tr_node tr_leaf q9o tr_leaf)) q9p (tr_node (tr_node tr_leaf q9q tr_leaf) q9r tr_leaf)))))))
noncomputable def fnT : Tr Func := (.node (.node (.node (.node (.node (.node (.node (.node .leaf 3 (Tryz.f3) .leaf) 4 (Tryz.f4) .leaf) 5 (Tryz.f5) (.node (.node .leaf 6 (Tryz.f6) .leaf) 7 (Tryz.f7) .leaf)) 8 (Tryz.f8) (.node (.node (.node .leaf 9 (Tryz.f9) .leaf) 10 (Tryz.f10) .leaf) 11 (Tryz.f11) (.node (.node .leaf 12 (Tryz.f12) .leaf) 13 (Tryz.f13) .leaf))) 14 (Tryz.f14) (.node (.node (.node (.node .leaf 15 (Tryz.f15) .leaf) 16 (Tryz.f16) .leaf) 17 (Tryz.f17) (.node (.node .leaf 18 (Tryz.f18) .leaf) 19 (Tryz.f19) .leaf)) 20 (Tryz.f20) (.node (.node (.node .leaf 21 (Tryz.f21) .leaf) 22 (Tryz.f22) .leaf) 23 (Tryz.f23) (.node (.node .leaf 24 (Tryz.f24) .leaf) 25 (Tryz.f25) .leaf)))) 26 (Tryz.f26) (.node (.node (.node (.node (.node .leaf 27 (Tryz.f27) .leaf) 28 (Tryz.f28) .leaf) 29 (Tryz.f29) (.node (.node .leaf 30 (Tryz.f30) .leaf) 31 (Tryz.f31) .leaf)) 32 (Tryz.f32) (.node (.node (.node .leaf 33 (Tryz.f33) .leaf) 34 (Tryz.f34) .leaf) 35 (Tryz.f35) (.node (.node .leaf 36 (Tryz.f36) .leaf) 37 (Tryz.f37) .leaf))) 38 (Tryz.f38) (.node (.node (.node (.node .leaf 39 (Tryz.f39) .leaf) 40 (Tryz.f40) .leaf) 41 (Tryz.f41) (.node (.node .leaf 42 (Tryz.f42) .leaf) 43 (Tryz.f43) .leaf)) 44 (Tryz.f44) (.node (.node (.node .leaf 45 (Tryz.f45) .leaf) 46 (Tryz.f46) .leaf) 47 (Tryz.f47) (.node (.node .leaf 48 (Tryz.f48) .leaf) 49 (Tryz.f49) .leaf))))) 50 (Tryz.f50) (.node (.node (.node (.node (.node (.node .leaf 51 (Tryz.f51) .leaf) 52 (Tryz.f52) .leaf) 53 (Tryz.f53) (.node (.node .leaf 54 (Tryz.f54) .leaf) 55 (Tryz.f55) .leaf)) 56 (Tryz.f56) (.node (.node (.node .leaf 57 (Tryz.f57) .leaf) 58 (Tryz.f58) .leaf) 59 (Tryz.f59) (.node (.node .leaf 60 (Tryz.f60) .leaf) 61 (Tryz.f61) .leaf))) 62 (Tryz.f62) (.node (.node (.node (.node .leaf 63 (Tryz.f63) .leaf) 64 (Tryz.f64) .leaf) 65 (Tryz.f65) (.node (.node .leaf 66 (Tryz.f66) .leaf) 67 (Tryz.f67) .leaf)) 68 (Tryz.f68) (.node (.node (.node .leaf 69 (Tryz.f69) .leaf) 70 (Tryz.f70) .leaf) 71 (Tryz.f71) (.node (.node .leaf 72 (Tryz.f72) .leaf) 73 (Tryz.f73) .leaf)))) 74 (Tryz.f74) (.node (.node (.node (.node (.node .leaf 75 (Tryz.f75) .leaf) 76 (Tryz.f76) .leaf) 77 (Tryz.f77) (.node (.node .leaf 78 (Tryz.f78) .leaf) 79 (Tryz.f79) .leaf)) 80 (Tryz.f80) (.node (.node (.node .leaf 81 (Tryz.f81) .leaf) 82 (Tryz.f82) .leaf) 83 (Tryz.f83) (.node (.node .leaf 84 (Tryz.f84) .leaf) 85 (Tryz.f85) .leaf))) 86 (Tryz.f86) (.node (.node (.node (.node .leaf 87 (Tryz.f87) .leaf) 88 (Tryz.f88) .leaf) 89 (Tryz.f89) (.node (.node .leaf 90 (Tryz.f90) .leaf) 91 (Tryz.f91) .leaf)) 92 (Tryz.f92) (.node (.node (.node .leaf 93 (Tryz.f93) .leaf) 94 (Tryz.f94) .leaf) 95 (Tryz.f95) (.node .leaf 96 (Tryz.f96) .leaf)))))) 97 (Tryz.f97) (.node (.node (.node (.node (.node (.node (.node .leaf 98 (Tryz.f98) .leaf) 99 (Tryz.f99) .leaf) 100 (Tryz.f100) (.node (.node .leaf 101 (Tryz.f101) .leaf) 102 (Tryz.f102) .leaf)) 103 (Tryz.f103) (.node (.node (.node .leaf 104 (Tryz.f104) .leaf) 105 (Tryz.f105) .leaf) 106 (Tryz.f106) (.node (.node .leaf 107 (Tryz.f107) .leaf) 108 (Tryz.f108) .leaf))) 109 (Tryz.f109) (.node (.node (.node (.node .leaf 110 (Tryz.f110) .leaf) 111 (Tryz.f111) .leaf) 112 (Tryz.f112) (.node (.node .leaf 113 (Tryz.f113) .leaf) 114 (Tryz.f114) .leaf)) 115 (Tryz.f115) (.node (.node (.node .leaf 116 (Tryz.f116) .leaf) 117 (Tryz.f117) .leaf) 118 (Tryz.f118) (.node (.node .leaf 119 (Tryz.f119) .leaf) 120 (Tryz.f120) .leaf)))) 121 (Tryz.f121) (.node (.node (.node (.node (.node .leaf 122 (Tryz.f122) .leaf) 123 (Tryz.f123) .leaf) 124 (Tryz.f124) (.node (.node .leaf 125 (Tryz.f125) .leaf) 126 (Tryz.f126) .leaf)) 127 (Tryz.f127) (.node (.node (.node .leaf 128 (Tryz.f128) .leaf) 129 (Tryz.f129) .leaf) 130 (Tryz.f130) (.node (.node .leaf 131 (Tryz.f131) .leaf) 132 (Tryz.f132) .leaf))) 133 (Tryz.f133) (.node (.node (.node (.node .leaf 134 (Tryz.f134) .leaf) 135 (Tryz.f135) .leaf) 136 (Tryz.f136) (.node (.node .leaf 137 (Tryz.f137) .leaf) 138 (Tryz.f138) .leaf)) 139 (Tryz.f139) (.node (.node (.node .leaf 140 (Tryz.f140) .leaf) 141 (Tryz.f141) .leaf) 142 (Tryz.f142) (.node .leaf 143 (Tryz.f143) .leaf))))) 144 (Tryz.f144) (.node (.node (.node (.node (.node (.node .leaf 145 (Tryz.f145) .leaf) 146 (Tryz.f146) .leaf) 147 (Tryz.f147) (.node (.node .leaf 148 (Tryz.f148) .leaf) 150 (Tryz.f150) .leaf)) 151 (Tryz.f151) (.node (.node (.node .leaf 152 (Tryz.f152) .leaf) 153 (Tryz.f153) .leaf) 154 (Tryz.f154) (.node (.node .leaf 155 (Tryz.f155) .leaf) 156 (Tryz.f156) .leaf))) 157 (Tryz.f157) (.node (.node (.node (.node .leaf 158 (Tryz.f158) .leaf) 159 (Tryz.f159) .leaf) 160 (Tryz.f160) (.node (.node .leaf 161 (Tryz.f161) .leaf) 162 (Tryz.f162) .leaf)) 163 (Tryz.f163) (.node (.node (.node .leaf 164 (Tryz.f164) .leaf) 165 (Tryz.f165) .leaf) 166 (Tryz.f166) (.node (.node .leaf 167 (Tryz.f167) .leaf) 168 (Tryz.f168) .leaf)))) 169 (Tryz.f169) (.node (.node (.node (.node (.node .leaf 170 (Tryz.f170) .leaf) 171 (Tryz.f171) .leaf) 172 (Tryz.f172) (.node (.node .leaf 173 (Tryz.f173) .leaf) 174 (Tryz.f174) .leaf)) 175 (Tryz.f175) (.node (.node (.node .leaf 177 (Tryz.f177) .leaf) 178 (Tryz.f178) .leaf) 179 (Tryz.f179) (.node (.node .leaf 180 (Tryz.f180) .leaf) 181 (Tryz.f181) .leaf))) 182 (Tryz.f182) (.node (.node (.node (.node .leaf 183 (Tryz.f183) .leaf) 184 (Tryz.f184) .leaf) 185 (Tryz.f185) (.node (.node .leaf 186 (Tryz.f186) .leaf) 187 (Tryz.f187) .leaf)) 188 (Tryz.f188) (.node (.node (.node .leaf 190 (Tryz.f190) .leaf) 191 (Tryz.f191) .leaf) 192 (Tryz.f192) (.node .leaf 193 (Tryz.f193) .leaf)))))))
theorem qab8 : ∀ g fn, fnT.get g = some fn → Tryz.prog.funcs[g]? = some fn ∧ (fn.name == "runtime.NumGoroutine") = false := (tr_node (tr_node (tr_node (tr_node (tr_node (tr_node (tr_node (tr_node tr_leaf ⟨Tryz.func3, by kernel_rfl⟩ tr_leaf) ⟨Tryz.func4, by kernel_rfl⟩ tr_leaf) ⟨Tryz.func5, by kernel_rfl⟩ (tr_node (tr_node tr_leaf ⟨Tryz.func6, by kernel_rfl⟩ tr_leaf) ⟨Tryz.func7, by kernel_rfl⟩ tr_leaf)) ⟨Tryz.func8, by kernel_rfl⟩ (tr_node (tr_node (tr_node tr_leaf ⟨Tryz.func9, by kernel_rfl⟩ tr_leaf) ⟨Tryz.func10, by kernel_rfl⟩ tr_leaf) ⟨Tryz.func11, by kernel_rfl⟩ (tr_node (tr_node tr_leaf ⟨Tryz.func12, by kernel_rfl⟩ tr_leaf) ⟨Tryz.func13, by kernel_rfl⟩ tr_leaf))) ⟨Tryz.func14, by kernel_rfl⟩ (tr_node (tr_node (tr_node (tr_node tr_leaf ⟨Tryz.func15, by kernel_rfl⟩ tr_leaf) ⟨Tryz.func16, by kernel_rfl⟩ tr_leaf) ⟨Tryz.func17, by kernel_rfl⟩ (tr_node (tr_node tr_leaf ⟨Tryz.func18, by kernel_rfl⟩ tr_leaf) ⟨Tryz.func19, by kernel_rfl⟩ tr_leaf)) ⟨Tryz.func20, by kernel_rfl⟩ (tr_node (tr_node (tr_node tr_leaf ⟨Tryz.func21, by kernel_rfl⟩ tr_leaf) ⟨Tryz.func22, by kernel_rfl⟩ tr_leaf) ⟨Tryz.func23, by kernel_rfl⟩ (tr_node (tr_node tr_leaf ⟨Tryz.func24, by kernel_rfl⟩ tr_leaf) ⟨Tryz.func25, by kernel_rfl⟩ tr_leaf)))) ⟨Tryz.func26, by kernel_rfl⟩ (tr_node (tr_node (tr_node (tr_node (tr_node tr_leaf ⟨Tryz.func27, by kernel_rfl⟩ tr_leaf) ⟨Tryz.func28, by kernel_rfl⟩ tr_leaf) ⟨Tryz.func29, by kernel_rfl⟩ (tr_node (tr_node tr_leaf ⟨Tryz.func30, by kernel_rfl⟩ tr_leaf) ⟨Tryz.func31, by kernel_rfl⟩ tr_leaf)) ⟨Tryz.func32, by kernel_rfl⟩ (tr_node (tr_node (tr_node tr_leaf ⟨Tryz.func33, by kernel_rfl⟩ tr_leaf) ⟨Tryz.func34, by kernel_rfl⟩ tr_leaf) ⟨Tryz.func35, by kernel_rfl⟩ (tr_node (tr_node tr_leaf ⟨Tryz.func36, by kernel_rfl⟩ tr_leaf) ⟨Tryz.func37, by kernel_rfl⟩ tr_leaf))) ⟨Tryz.func38, by kernel_rfl⟩ (tr_node (tr_node (tr_node (tr_node tr_leaf ⟨Tryz.func39, by kernel_rfl⟩ tr_leaf) ⟨Tryz.func40, by kernel_rfl⟩ tr_leaf) ⟨Tryz.func41, by kernel_rfl⟩ (tr_node (tr_node tr_leaf ⟨Tryz.func42, by kernel_rfl⟩ tr_leaf) ⟨Tryz.func43, by kernel_rfl⟩ tr_leaf)) ⟨Tryz.func44, by kernel_rfl⟩ (tr_node (tr_node (tr_node tr_leaf ⟨Tryz.func45, by kernel_rfl⟩ tr_leaf) ⟨Tryz.func46, by kernel_rfl⟩ tr_leaf) ⟨Tryz.func47, by kernel_rfl⟩ (tr_node (tr_node tr_leaf ⟨Tryz.func48, by kernel_rfl⟩ tr_leaf) ⟨Tryz.func49, by kernel_rfl⟩ tr_leaf))))) ⟨Tryz.func50, by kernel_rfl⟩ (tr_node (tr_node (tr_node (tr_node (tr_node (tr_node tr_leaf ⟨Tryz.func51, by kernel_rfl⟩ tr_leaf) ⟨Tryz.func52, by kernel_rfl⟩ tr_leaf) ⟨Tryz.func53, by kernel_rfl⟩ (tr_node (tr_node tr_leaf ⟨Tryz.func54, by kernel_rfl⟩ tr_leaf) ⟨Tryz.func55, by kernel_rfl⟩ tr_leaf)) ⟨Tryz.func56, by kernel_rfl⟩ (tr_node (tr_node (tr_node tr_leaf ⟨Tryz.func57, by kernel_rfl⟩ tr_leaf) ⟨Tryz.func58, by kernel_rfl⟩ tr_leaf) ⟨Tryz.func59, by kernel_rfl⟩ (tr_node (tr_node tr_leaf ⟨Tryz.func60, by kernel_rfl⟩ tr_leaf) ⟨Tryz.func61, by kernel_rfl⟩ tr_leaf))) ⟨Tryz.func62, by kernel_rfl⟩ (tr_node (tr_node (tr_node (tr_node tr_leaf ⟨Tryz.func63, by kernel_rfl⟩ tr_leaf) ⟨Tryz.func64, by kernel_rfl⟩ tr_leaf) ⟨Tryz.func65, by kernel_rfl⟩ (tr_node (tr_node tr_leaf ⟨Tryz.func66, by kernel_rfl⟩ tr_leaf) ⟨Tryz.func67, by kernel_rfl⟩ tr_leaf)) ⟨Tryz.func68, by kernel_rfl⟩ (tr_node (tr_node (tr_node tr_leaf ⟨Tryz.func69, by kernel_rfl⟩ tr_leaf) ⟨Tryz.func70, by kernel_rfl⟩ tr_leaf) ⟨Tryz.func71, by kernel_rfl⟩ (tr_node (tr_node tr_leaf ⟨Tryz.func72, by kernel_rfl⟩ tr_leaf) ⟨Tryz.func73, by kernel_rfl⟩ tr_leaf)))) ⟨Tryz.func74, by kernel_rfl⟩ (tr_node (tr_node (tr_node (tr_node (tr_node tr_leaf ⟨Tryz.func75, by kernel_rfl⟩ tr_leaf) ⟨Tryz.func76, by kernel_rfl⟩ tr_leaf) ⟨Tryz.func77, by kernel_rfl⟩ (tr_node (tr_node tr_leaf ⟨Tryz.func78, by kernel_rfl⟩ tr_leaf) ⟨Tryz.func79, by kernel_rfl⟩ tr_leaf)) ⟨Tryz.func80, by kernel_rfl⟩ (tr_node (tr_node (tr_node tr_leaf ⟨Tryz.func81, by kernel_rfl⟩ tr_leaf) ⟨Tryz.func82, by kernel_rfl⟩ tr_leaf) ⟨Tryz.func83, by kernel_rfl⟩ (tr_node (tr_node tr_leaf ⟨Tryz.func84, by kernel_rfl⟩ tr_leaf) ⟨Tryz.func85, by kernel_rfl⟩ tr_leaf))) ⟨Tryz.func86, by kernel_rfl⟩ (tr_node (tr_node (tr_node (tr_node tr_leaf ⟨Tryz.func87, by kernel_rfl⟩ tr_leaf) ⟨Tryz.func88, by kernel_rfl⟩ tr_leaf) ⟨Tryz.func89, by kernel_rfl⟩ (tr_node (tr_node tr_leaf ⟨Tryz.func90, by kernel_rfl⟩ tr_leaf) ⟨Tryz.func91, by kernel_rfl⟩ tr_leaf)) ⟨Tryz.func92, by kernel_rfl⟩ (tr_node (tr_node (tr_node tr_leaf ⟨Tryz.func93, by kernel_rfl⟩ tr_leaf) ⟨Tryz.func94, by kernel_rfl⟩ tr_leaf) ⟨Tryz.func95, by kernel_rfl⟩ (tr_node tr_leaf ⟨Tryz.func96, by kernel_rfl⟩ tr_leaf)))))) ⟨Tryz.func97, by kernel_rfl⟩ (tr_node (tr_node (tr_node (tr_node (tr_node (tr_node (tr_node tr_leaf ⟨Tryz.func98, by kernel_rfl⟩ tr_leaf) ⟨Tryz.func99, by kernel_rfl⟩ tr_leaf) ⟨Tryz.func100, by kernel_rfl⟩ (tr_node (tr_node tr_leaf ⟨Tryz.func101, by kernel_rfl⟩ tr_leaf) ⟨Tryz.func102, by kernel_rfl⟩ tr_leaf)) ⟨Tryz.func103, by kernel_rfl⟩ (tr_node (tr_node (tr_node tr_leaf ⟨Tryz.func104, by kernel_rfl⟩ tr_leaf) ⟨Tryz.func105, by kernel_rfl⟩ tr_leaf) ⟨Tryz.func106, by kernel_rfl⟩ (tr_node (tr_node tr_leaf ⟨Tryz.func107, by kernel_rfl⟩ tr_leaf) ⟨Tryz.func108, by kernel_rfl⟩ tr_leaf))) ⟨Tryz.func109, by kernel_rfl⟩ (tr_node (tr_node (tr_node (tr_node tr_leaf ⟨Tryz.func110, by kernel_rfl⟩ tr_leaf) ⟨Tryz.func111, by kernel_rfl⟩ tr_leaf) ⟨Tryz.func112, by kernel_rfl⟩ (tr_node (tr_node tr_leaf ⟨Tryz.func113, by kernel_rfl⟩ tr_leaf) ⟨Tryz.func114, by kernel_rfl⟩ tr_leaf)) ⟨Tryz.func115, by kernel_rfl⟩ (tr_node (tr_node (tr_node tr_leaf ⟨Tryz.func116, by kernel_rfl⟩ tr_leaf) ⟨Tryz.func117, by kernel_rfl⟩ tr_leaf) ⟨Tryz.func118, by kernel_rfl⟩ (tr_node (tr_node tr_leaf ⟨Tryz.func119, by kernel_rfl⟩ tr_leaf) ⟨Tryz.func120, by kernel_rfl⟩ tr_leaf)))) ⟨Tryz.func121, by kernel_rfl⟩ (tr_node (tr_node (tr_node (tr_node (tr_node tr_leaf ⟨Tryz.func122, by kernel_rfl⟩ tr_leaf) ⟨Tryz.func123, by kernel_rfl⟩ tr_leaf) ⟨Tryz.func124, by kernel_rfl⟩ (tr_node (tr_node tr_leaf ⟨Tryz.func125, by kernel_rfl⟩ tr_leaf) ⟨Tryz.func126, by kernel_rfl⟩ tr_leaf)) ⟨Tryz.func127, by kernel_rfl⟩ (tr_node (tr_node (tr_node tr_leaf ⟨Tryz.func128, by kernel_rfl⟩ tr_leaf) ⟨Tryz.func129, by kernel_rfl⟩ tr_leaf) ⟨Tryz.func130, by kernel_rfl⟩ (tr_node (tr_node tr_leaf ⟨Tryz.func131, by kernel_rfl⟩ tr_leaf) ⟨Tryz.func132, by kernel_rfl⟩ tr_leaf))) ⟨Tryz.func133, by kernel_rfl⟩ (tr_node (tr_node (tr_node (tr_node tr_leaf ⟨Tryz.func134, by kernel_rfl⟩ tr_leaf) ⟨Tryz.func135, by kernel_rfl⟩ tr_leaf) ⟨Tryz.func136, by kernel_rfl⟩ (tr_node (tr_node tr_leaf ⟨Tryz.func137, by kernel_rfl⟩ tr_leaf) ⟨Tryz.func138, by kernel_rfl⟩ tr_leaf)) ⟨Tryz.func139, by kernel_rfl⟩ (tr_node (tr_node (tr_node tr_leaf ⟨Tryz.func140, by kernel_rfl⟩ tr_leaf) ⟨Tryz.func141, by kernel_rfl⟩ tr_leaf) ⟨Tryz.func142, by kernel_rfl⟩ (tr_node tr_leaf ⟨Tryz.func143, by kernel_rfl⟩ tr_leaf))))) ⟨Tryz.func144, by kernel_rfl⟩ (tr_node (tr_node (tr_node (tr_node (tr_node (tr_node tr_leaf ⟨Tryz.func145, by kernel_rfl⟩ tr_leaf) ⟨Tryz.func146, by kernel_rfl⟩ tr_leaf) ⟨Tryz.func147, by kernel_rfl⟩ (tr_node (tr_node tr_leaf ⟨Tryz.func148, by kernel_rfl⟩ tr_leaf) ⟨Tryz.func150, by kernel_rfl⟩ tr_leaf)) ⟨Tryz.func151, by kernel_rfl⟩ (tr_node (tr_node (tr_node tr_leaf ⟨Tryz.func152, by kernel_rfl⟩ tr_leaf) ⟨Tryz.func153, by kernel_rfl⟩ tr_leaf) ⟨Tryz.func154, by kernel_rfl⟩ (tr_node (tr_node tr_leaf ⟨Tryz.func155, by kernel_rfl⟩ tr_leaf) ⟨Tryz.func156, by kernel_rfl⟩ tr_leaf))) ⟨Tryz.func157, by kernel_rfl⟩ (tr_node (tr_node (tr_node (tr_node tr_leaf ⟨Tryz.func158, by kernel_rfl⟩ tr_leaf) ⟨Tryz.func159, by kernel_rfl⟩ tr_leaf) ⟨Tryz.func160, by kernel_rfl⟩ (tr_node (tr_node tr_leaf ⟨Tryz.func161, by kernel_rfl⟩ tr_leaf) ⟨Tryz.func162, by kernel_rfl⟩ tr_leaf)) ⟨Tryz.func163, by kernel_rfl⟩ (tr_node (tr_node (tr_node tr_leaf ⟨Tryz.func164, by kernel_rfl⟩ tr_leaf) ⟨Tryz.func165, by kernel_rfl⟩ tr_leaf) ⟨Tryz.func166, by kernel_rfl⟩ (tr_node (tr_node tr_leaf ⟨Tryz.func167, by kernel_rfl⟩ tr_leaf) ⟨Tryz.func168, by kernel_rfl⟩ tr_leaf)))) ⟨Tryz.func169, by kernel_rfl⟩ (tr_node (tr_node (tr_node (tr_node (tr_node tr_leaf ⟨Tryz.func170, by kernel_rfl⟩ tr_leaf) ⟨Tryz.func171, by kernel_rfl⟩ tr_leaf) ⟨Tryz.func172, by kernel_rfl⟩ (tr_node (tr_node tr_leaf ⟨Tryz.func173, by kernel_rfl⟩ tr_leaf) ⟨Tryz.func174, by kernel_rfl⟩ tr_leaf)) ⟨Tryz.func175, by kernel_rfl⟩ (tr_node (tr_node (tr_node tr_leaf ⟨Tryz.func177, by kernel_rfl⟩ tr_leaf) ⟨Tryz.func178, by kernel_rfl⟩ tr_leaf) ⟨Tryz.func179, by kernel_rfl⟩ (tr_node (tr_node tr_leaf ⟨Tryz.func180, by kernel_rfl⟩ tr_leaf) ⟨Tryz.func181, by kernel_rfl⟩ tr_leaf))) ⟨Tryz.func182, by kernel_rfl⟩ (tr_node (tr_node (tr_node (tr_node tr_leaf ⟨Tryz.func183, by kernel_rfl⟩ tr_leaf) ⟨Tryz.func184, by kernel_rfl⟩ tr_leaf) ⟨Tryz.func185, by kernel_rfl⟩ (tr_node (tr_node tr_leaf ⟨Tryz.func186, by kernel_rfl⟩ tr_leaf) ⟨Tryz.func187, by kernel_rfl⟩ tr_leaf)) ⟨Tryz.func188, by kernel_rfl⟩ (tr_node (tr_node (tr_node tr_leaf ⟨Tryz.func190, by kernel_rfl⟩ tr_leaf) ⟨Tryz.func191, by kernel_rfl⟩ tr_leaf) ⟨Tryz.func192, by kernel_rfl⟩ (tr_node tr_leaf ⟨Tryz.func193, by kernel_rfl⟩ tr_leaf)))))))
noncomputable def tyF : TypeId → Option TI := fun t => tyT.get t
noncomputable def fnF : FuncId → Option Func := fun f => fnT.get f
theorem tabs : TabsOk Tryz.prog tyF fnF := ⟨qacj, qab8, by kernel_rfl⟩
def gl : Nat → Option AV := fun g => match g with
  | 0 => some (.dat (.arr 6 (.arr 3 (.int .i64))) [[(0 : Int), (1 : Int), (2 : Int)], [(0 : Int), (2 : Int), (1 : Int)], [(1 : Int), (0 : Int), (2 : Int)], [(1 : Int), (2 : Int), (0 : Int)], [(2 : Int), (0 : Int), (1 : Int)], [(2 : Int), (1 : Int), (0 : Int)]])
  | 5 => some (.dat (.arr 20 (.int .u64)) [(1 : Int), (10 : Int), (100 : Int), (1000 : Int), (10000 : Int), (100000 : Int), (1000000 : Int), (10000000 : Int), (100000000 : Int), (1000000000 : Int), (10000000000 : Int), (100000000000 : Int), (1000000000000 : Int), (10000000000000 : Int), (100000000000000 : Int), (1000000000000000 : Int), (10000000000000000 : Int), (100000000000000000 : Int), (1000000000000000000 : Int), (10000000000000000000 : Int)])
  | _ => none
end Go.AV
end
section
namespace Go.AV
open Go Go.RowKit
section
variable {P : Program} {F : Fence} {n : Nat}
theorem fenced_of_wide (hW : Wide F) (m : Machine) : m.fenced P F :=
  fun g _ => ⟨fun h => by simp [hW.2.2] at h, .inl (hW.1 _), fun f _ => hW.1 f, fun d hd => by simp [hW.2.1] at hd⟩
theorem callsIn_of_calls (hW : Wide F) {f : FuncId} {args : Array Value} {w : World} {R : Ending → World → Prop} (h : Calls P f args w R) : CallsIn F n P f args w R := by
  refine ⟨hW.1 f, fun cs _ => ?_⟩
  obtain ⟨e, w', fr, r, s, x⟩ := h cs
  refine ⟨e, w', fr, r, ?_, x⟩
  cases e with
  | returned v => exact (StepsIn.of_steps s).mono fun m _ => fenced_of_wide hW m
  | panicked c => exact (StepsIn.of_steps s).mono fun m _ => fenced_of_wide hW m
  | outgrown => exact s
theorem leads_of_calls (hW : Wide F) {f : FuncId} {args : Array Value} {w : World} {R : Value → World → Prop} (he : ∀ args w, (callFunc f args).run P w = .ok (.enter f args) w)
    (h : Calls P f args w fun e w' => ∃ v, e = .returned v ∧ R v w') : LeadsTo F n P R ((callFunc f args).run P w) := by
  rw [he]
  refine CallsIn.mono (callsIn_of_calls hW h) ?_
  rintro e w' ⟨v, rfl, h⟩
  exact h
theorem fnSpec_of_calls {gl : Nat → Option AV} {f : FuncId} {c : Ctr} (he : ∀ args w, (callFunc f args).run P w = .ok (.enter f args) w)
    (h : ∀ (w : World) (ok : Nat → Prop) (args : List Value) (x : denL c.A) (y : denL c.R), c.G x = some y → GlobOk gl w → AV.ones (bare w ok) (backL c.A x) args →
      Calls P f args.toArray w fun e w' => ∃ v, e = .returned v ∧ Below w.heap.size w w' ∧ ∀ w' ok, (back c.R y).val (bare w' ok) v) : FnSpec P gl f c := by
  intro F n hW w ok args x y hx hgl hok ha
  refine leads_of_calls hW he ((h w ok args x y hx hgl ha).mono ?_)
  rintro e w' ⟨v, rfl, hb, hv⟩
  exact ⟨v, rfl, hb, ok, fun _ h => h, fun _ h => .inl h, fun b h => Nat.lt_of_lt_of_le (hok b h) hb.size, hv w' ok⟩
theorem specOk_of_calls {gl : Nat → Option AV} {f : FuncId} {s : (Nat → Option Ent) → List AV → Option (Bool × AV × List (Nat × Ent))} (he : ∀ args w, (callFunc f args).run P w = .ok (.enter f args) w)
    (h : ∀ (σ : Look) (args : List AV) (x : AV) (e : Eff), s σ args = some (true, x, e) → e = [] ∧ ∀ (Γ : Ctx) (us : List Value), AV.ones Γ args us →
      Calls P f us.toArray Γ.w fun e w' => ∃ v, e = .returned v ∧ Below Γ.w.heap.size Γ.w w' ∧ ∀ Γ' : Ctx, x.val Γ' v) : SpecOk P gl f s := by
  intro σ args x e hs F n hW w0 sp Γ us hgl hg hσ ha
  obtain ⟨rfl, h⟩ := h σ args x e hs
  refine leads_of_calls hW he ((h Γ us ha).mono ?_)
  rintro e w' ⟨v, rfl, hb, hv⟩
  obtain ⟨l, g2⟩ := hg.called (ok' := Γ.ok) hb (fun _ h => h) (fun b h => .inl h) (fun b h => Nat.lt_of_lt_of_le (hg.okb b h).1 hb.size)
  exact ⟨v, rfl, { Γ with w := w' }, rfl, hv _, l, rfl, rfl, g2⟩
end
end Go.AV
end
section
namespace Go.AV
open Go Go.RowKit Go.Proofs Go.Proofs.Tryz
theorem tab_of_glob {w : World} (h : GlobOk gl w) : Lib.TabIs Tryz.prog w "internal/strconv.uint64pow10" .u64 Lib.pow10Tab := by
  obtain ⟨_, h2, us, h3, h4, C, T, fz, h5, h6⟩ := h 5 _ rfl
  have hg : Tryz.prog.globalNamed "internal/strconv.uint64pow10" = some 5 := by kernel_rfl
  have e : us = Lib.pow10Tab.map (Value.int .u64) := by
    have := arr_ints (k := .u64) (xs := Lib.pow10Tab) (us := us) (w := w) (ok := fun _ => False) (h4 ⟨w, fun _ => False, fun _ => none, fun _ => none, []⟩)
    exact this
  unfold Lib.TabIs World.var?
  rw [hg]
  simp only [Option.bind_some, h5]
  rw [← e, ← h6]
theorem tab_below {w w' : World} (h : GlobOk gl w) (hb : Below w.heap.size w w') : Lib.TabIs Tryz.prog w' "internal/strconv.uint64pow10" .u64 Lib.pow10Tab := tab_of_glob (h.below hb)
noncomputable def qua (x : Int × Int × Int × Unit) : Option (Int × Int × Unit) :=
  wh (0 ≤ x.1 ∧ 0 ≤ x.2.1 ∧ x.2.2.1 = 0) ((x.1 + x.2.1) % 18446744073709551616, (x.1 + x.2.1) / 18446744073709551616, ())
noncomputable def Add64_c : Ctr := ⟨[(false, .int .u64), (false, .int .u64), (false, .int .u64)], [(false, .int .u64), (false, .int .u64)], qua⟩
set_option maxRecDepth 100000 in
theorem spec_math_bits_Add64 : FnSpec Tryz.prog gl 149 Add64_c := by
  intro F n hW w ok args x y hx hgl hok ha
  obtain ⟨u1, _, rfl, h1, u2, _, rfl, h2, u3, _, rfl, h3, rfl⟩ := ha
  obtain rfl := val_int.1 h1
  obtain rfl := val_int.1 h2
  obtain rfl := val_int.1 h3
  obtain ⟨⟨k1, k2, k3⟩, rfl⟩ := wh_some hx
  have hr := run_callFunc_extern (P := Tryz.prog) (f := 149) (fn := Tryz.f149) (e := add64Entry) Tryz.func149 (by kernel_rfl) (by kernel_rfl) (by kernel_rfl) (by kernel_rfl) #[.int .u64 x.1, .int .u64 x.2.1, .int .u64 x.2.2.1] w
  rw [Go.run_add64 _ _ _ k1 k2 (by omega) (by omega)] at hr
  rw [hr]
  refine ⟨Below.refl _ _, ok, fun _ h => h, fun _ h => .inl h, hok, _, rfl, ⟨_, _, rfl, ?_, _, _, rfl, ?_, rfl⟩⟩
  · exact val_int.2 (by rw [k3, Int.add_zero])
  · exact val_int.2 (by rw [k3, Int.add_zero])
theorem enters76 : ∀ args w, (callFunc 76 args).run Tryz.prog w = .ok (.enter 76 args) w := enters_of Tryz.func76 (by kernel_rfl) rfl
theorem enters82 : ∀ args w, (callFunc 82 args).run Tryz.prog w = .ok (.enter 82 args) w := enters_of Tryz.func82 (by kernel_rfl) rfl
theorem enters112 : ∀ args w, (callFunc 112 args).run Tryz.prog w = .ok (.enter 112 args) w := enters_of Tryz.func112 (by kernel_rfl) rfl
def qte (x : ByteArray × Unit) : Option (Int × Unit) := some (if badText x.1 then 10 else 0, ())
def whole_Check_c : Ctr := ⟨[(false, .str)], [(false, .int .i64)], qte⟩
set_option maxRecDepth 100000 in
theorem spec0_whole_Check : FnSpec Tryz.prog gl 76 whole_Check_c := by
  refine fnSpec_of_calls enters76 fun w ok args x y hx hgl ha => ?_
  obtain ⟨u1, _, rfl, h1, rfl⟩ := ha
  obtain rfl := val_str.1 h1
  obtain rfl := Option.some.inj hx
  refine (check_any x.1 w).mono ?_
  rintro e w' ⟨rfl, hb⟩
  exact ⟨_, rfl, hb, fun w' ok => val_int.2 rfl⟩
def parseN (s : ByteArray) : Nat := match Lib.parseUintB 64 s.data.toList with
  | .ok u => u
  | _ => 0
def toldL (neg : Bool) (ms : List Int) : List UInt8 :=
  if ms.length = 0 then signOf neg ++ padded 1 0 else signOf neg ++ (List.range (ms.length - 1 + 1)).flatMap (pc (ms.length - 1) fun i => (ms.getD i 0).toNat)
def toldN (ms : List Int) : Nat := if ms.length = 0 then 1 else 18 * (ms.length - 1) + (Lib.decDigits (ms.getD (ms.length - 1) 0).toNat).length
noncomputable def qsl (x : (Bool × List Int × Unit) × Unit) : Option (ByteArray × Int × Unit) :=
  wh (x.1.2.1.length ≤ 1000 ∧ ∀ d ∈ x.1.2.1, 0 ≤ d ∧ d < 18446744073709551616) (if toldN x.1.2.1 ≤ 600 then (⟨(toldL x.1.1 x.1.2.1).toArray⟩, 0, ()) else (⟨#[]⟩, 6, ()))
noncomputable def Number_Told_c : Ctr := ⟨[(false, .prod .bool (.prod (.slice (.int .u64)) .unit))], [(false, .str), (false, .int .i64)], qsl⟩
theorem q5a {ms : List Int} (h : ∀ d ∈ ms, 0 ≤ d ∧ d < 18446744073709551616) {i : Nat} (hi : i < ms.length) : 0 ≤ ms.getD i 0 ∧ (ms.getD i 0).toNat < 18446744073709551616 := by
  have e : ms.getD i 0 = ms[i] := by rw [List.getD_eq_getElem?_getD, List.getElem?_eq_getElem hi]; rfl
  have := h _ (List.getElem_mem hi)
  rw [e]
  exact ⟨this.1, by omega⟩
set_option maxRecDepth 100000 in
theorem spec_Number_Told : FnSpec Tryz.prog gl 82 Number_Told_c := by
  refine fnSpec_of_calls enters82 fun w ok args x y hx hgl ha => ?_
  obtain ⟨u1, _, rfl, h1, rfl⟩ := ha
  obtain ⟨⟨neg, ms, ⟨⟩⟩, ⟨⟩⟩ := x
  obtain ⟨⟨k1, k2⟩, rfl⟩ := wh_some hx
  simp only at k1 k2
  have htab := fun w' hb => tab_below (w' := w') hgl hb
  have hv : ∃ ad cap, u1 = .agg #[.bool neg, .slice ad ms.length cap] ∧ (0 < ms.length → ∃ b o, ad = some ⟨b, o, none⟩ ∧ ∀ i, i < ms.length → w.cell? ⟨b, o + i, none⟩ = some (.int .u64 (ms.getD i 0))) := by
    obtain ⟨vs, ⟨p, q, rfl, hp, p2, q2, rfl, hs, hu⟩, rfl⟩ := h1
    obtain rfl : p = [.bool neg] := hp
    obtain rfl : q2 = [] := hu
    obtain ⟨ad, cap, rfl, hlen, hcells⟩ := hs
    refine ⟨ad, cap, rfl, fun h0 => ?_⟩
    obtain ⟨b, o, rfl, hok, hc⟩ := hcells h0
    refine ⟨b, o, rfl, fun i hi => ?_⟩
    obtain ⟨us, hr, hcell⟩ := hc i hi
    obtain rfl : us = [.int .u64 (ms.getD i 0)] := hr
    have := hcell 0 (by simp)
    have e : o + i * (Ty.int .u64).size + 0 = o + i := by simp [Ty.size]
    rw [e] at this
    exact this
  obtain ⟨ad, cap, rfl, hcell⟩ := hv
  by_cases h0 : ms.length = 0
  · obtain rfl : ms = [] := List.eq_nil_of_length_eq_zero h0
    refine (told_nil neg ad cap w htab).mono ?_
    rintro e w' ⟨rfl, hb⟩
    exact ⟨_, rfl, hb, fun w' ok => ⟨_, rfl, _, _, rfl, val_str.2 rfl, _, _, rfl, val_int.2 rfl, rfl⟩⟩
  · obtain ⟨m, hm⟩ : ∃ m, ms.length = m + 1 := ⟨ms.length - 1, by omega⟩
    obtain ⟨b, o, rfl, hc⟩ := hcell (by omega)
    have hnn : ∀ i, i ≤ m → 0 ≤ ms.getD i 0 := fun i hi => (q5a k2 (by omega : i < ms.length)).1
    have hz : ∀ i, i ≤ m → (ms.getD i 0).toNat < 18446744073709551616 := fun i hi => (q5a k2 (by omega : i < ms.length)).2
    have hc' : ∀ i, i ≤ m → w.cell? ⟨b, o + i, none⟩ = some (.int .u64 ((ms.getD i 0).toNat : Nat)) := fun i hi => by
      rw [hc i (by omega), Int.toNat_of_nonneg (hnn i hi)]
    have hN : toldN ms = 18 * m + (Lib.decDigits (ms.getD m 0).toNat).length := by
      unfold toldN; rw [if_neg h0, show ms.length - 1 = m by omega]
    have hL : toldL neg ms = signOf neg ++ (List.range (m + 1)).flatMap (pc m fun i => (ms.getD i 0).toNat) := by
      unfold toldL; rw [if_neg h0, show ms.length - 1 = m by omega]
    simp only [hN, hL, hm]
    by_cases h6 : 18 * m + (Lib.decDigits (ms.getD m 0).toNat).length ≤ 600
    · rw [if_pos h6]
      refine (told_pos neg b o cap m (fun i => (ms.getD i 0).toNat) w (by omega) hz hc' htab h6).mono ?_
      rintro e w' ⟨rfl, hb⟩
      exact ⟨_, rfl, hb, fun w' ok => ⟨_, rfl, _, _, rfl, val_str.2 rfl, _, _, rfl, val_int.2 rfl, rfl⟩⟩
    · rw [if_neg h6]
      refine (told_long neg b o cap m (fun i => (ms.getD i 0).toNat) w (by omega) hz hc' htab h6).mono ?_
      rintro e w' ⟨rfl, hb⟩
      exact ⟨_, rfl, hb, fun w' ok => ⟨_, rfl, _, _, rfl, val_str.2 rfl, _, _, rfl, val_int.2 rfl, rfl⟩⟩
def parse_S : (Nat → Option Ent) → List AV → Option (Bool × AV × List (Nat × Ent))
  | _, [.dat .str s, .dat (.int .i64) b, .dat (.int .i64) k] => some (decide (b = 10 ∧ k = 64 ∧ s.size ≤ 1000 ∧ Lib.parseUintB 64 s.data.toList = .ok (parseN s)), .tup [.dat (.int .u64) ((parseN s : Nat) : Int), .junk], [])
  | _, _ => none
set_option maxRecDepth 100000 in
theorem spec_parse : SpecOk Tryz.prog gl 112 parse_S := by
  refine specOk_of_calls enters112 fun σ args x e hs => ?_
  unfold parse_S at hs
  split at hs
  · rename_i s b k
    simp only [Option.some.injEq, Prod.mk.injEq, decide_eq_true_eq] at hs
    obtain ⟨⟨rfl, rfl, hsz, hp⟩, rfl, rfl⟩ := hs
    refine ⟨rfl, fun Γ us ha => ?_⟩
    obtain ⟨u1, _, rfl, h1, u2, _, rfl, h2, u3, _, rfl, h3, rfl⟩ := ha
    obtain rfl := val_str.1 h1
    obtain rfl := val_int.1 h2
    obtain rfl := val_int.1 h3
    refine (Tryz.strconv_ParseUint_10_at64_ok s (by omega) _ hp Γ.w).mono ?_
    rintro e w' ⟨rfl, hw⟩
    refine ⟨_, rfl, ?_, fun Γ' => ⟨_, rfl, _, _, rfl, val_int.2 rfl, _, _, rfl, trivial, rfl⟩⟩
    rcases hw with rfl | rfl
    · exact Below.refl _ _
    · exact Lib.bytesWorld_below _ _ _
  · simp at hs
end Go.AV
end
section
namespace Go.AV
open Go Go.RowKit Go.Proofs Go.Proofs.Tryz
theorem rep_ints {w : World} {ok : Nat → Prop} {k : IntKind} {n : Nat} {xs : List Int} (h : xs.length = n) : (Ty.arr n (.int k)).rep w ok xs (xs.map (Value.int k)) := by
  refine ⟨h, fun i => [Value.int k (xs.getD i 0)], ?_, fun i hi => rfl⟩
  subst h
  rw [List.flatMap_def]
  apply List.ext_getElem?
  intro i
  have e : ((List.range xs.length).map fun i => [Value.int k (xs.getD i 0)]).flatten = (List.range xs.length).map fun i => Value.int k (xs.getD i 0) := by
    induction (List.range xs.length) with
    | nil => rfl
    | cons a l ih => rw [List.map_cons, List.flatten_cons, ih]; rfl
  rw [e]
  by_cases hi : i < xs.length
  · simp [hi, List.getD_eq_getElem?_getD]
  · simp [hi]
theorem chunk3 (cs : List Value) (k : Nat) : cs.drop k = (cs.drop k).take 3 ++ cs.drop (k + 3) := by
  conv => lhs; rw [← List.take_append_drop 3 (cs.drop k)]
  rw [List.drop_drop]
theorem cells_of_tab23 {H : Type} {enc : TypeId × Value → H} {P : Program} {w : World} {base : Nat} {sp : Nat → Bool} {held : Bool} {fuel : Nat} {t e i : TypeId} {k : IntKind} {cs : List Value} {a b c d f g : List Int} {p : List MemPlace}
    (ht : P.underlying t = some (.array 6 e)) (he : P.underlying e = some (.array 3 i)) (hi : P.underlying i = some (.int k)) (hci : P.cellsOf i = 1) (hce : P.cellsOf e = 3) (hct : P.cellsOf t = 18)
    (h : DataW.trod enc P w base sp held fuel t cs = some (.agg [Lib.tabData k a, Lib.tabData k b, Lib.tabData k c, Lib.tabData k d, Lib.tabData k f, Lib.tabData k g], p)) :
    cs = (a ++ b ++ c ++ d ++ f ++ g).map fun z => Value.int k z := by
  cases fuel with
  | zero => simp [DataW.trod] at h
  | succ fuel =>
    simp only [DataW.trod, ht, hce, hct] at h
    split at h
    · rename_i hl
      have hl' : cs.length = 18 := by simpa using hl
      obtain ⟨xs, hm, hx⟩ := Option.map_eq_some_iff.1 h
      have hxs := congrArg Prod.fst hx
      simp only [DataW.agg.injEq] at hxs
      have key : ∀ (j : Nat) (zs : List Int), j < 6 → (xs.map (·.1))[j]? = some (Lib.tabData k zs) → (cs.drop (j * 3)).take 3 = zs.map fun z => Value.int k z := by
        intro j zs hj hz
        obtain ⟨y, hy, hf⟩ := Lib.mapM_at hm j j (by simp [hj])
        rw [List.getElem?_map, hy] at hz
        simp only [Option.map_some, Option.some.injEq] at hz
        have hf2 : DataW.trod enc P w base sp held fuel e ((cs.drop (j * 3)).take 3) = some (Lib.tabData k zs, y.2) := by
          rw [← hz]
          exact hf
        exact Lib.cells_of_tab he hi hci hce hf2
      have k0 := key 0 a (by omega) (by rw [hxs]; rfl)
      have k1 := key 1 b (by omega) (by rw [hxs]; rfl)
      have k2 := key 2 c (by omega) (by rw [hxs]; rfl)
      have k3 := key 3 d (by omega) (by rw [hxs]; rfl)
      have k4 := key 4 f (by omega) (by rw [hxs]; rfl)
      have k5 := key 5 g (by omega) (by rw [hxs]; rfl)
      have e0 : cs = cs.drop 0 := rfl
      rw [e0, chunk3 cs 0, chunk3 cs (0 + 3), chunk3 cs (0 + 3 + 3), chunk3 cs (0 + 3 + 3 + 3), chunk3 cs (0 + 3 + 3 + 3 + 3), chunk3 cs (0 + 3 + 3 + 3 + 3 + 3), List.drop_eq_nil_of_le (i := 0 + 3 + 3 + 3 + 3 + 3 + 3) (by omega)]
      rw [show (0 : Nat) + 3 = 1 * 3 from rfl, show 1 * 3 + 3 = 2 * 3 from rfl, show 2 * 3 + 3 = 3 * 3 from rfl, show 3 * 3 + 3 = 4 * 3 from rfl, show 4 * 3 + 3 = 5 * 3 from rfl, k1, k2, k3, k4, k5]
      rw [show cs.drop 0 = cs.drop (0 * 3) from rfl, k0]
      simp only [List.map_append, List.append_assoc, List.append_nil]
    · cases h
theorem glob_arr {w : World} {g : Nat} {name : String} {x : AV} {us : List Value} (hb : boxable x = true) (hg : Tryz.prog.globalNamed name = some g) (hv : w.var? Tryz.prog name = some us.toArray) (hx : ∀ Γ, x.cells Γ us) :
    boxable x = true ∧ g < w.heap.size ∧ ∃ us, cellsAt w g 0 us ∧ (∀ Γ, x.cells Γ us) ∧ ∃ C T fz, w.heap[g]? = some (.cells C T fz) ∧ C.toList = us := by
  have hv' := hv
  unfold World.var? at hv'
  rw [hg] at hv'
  simp only [Option.bind_some] at hv'
  split at hv'
  · rename_i C T fz hc
    simp only [Option.some.injEq] at hv'
    subst hv'
    refine ⟨hb, (Array.getElem?_eq_some_iff.1 hc).1, us, fun j hj => ?_, hx, _, T, fz, hc, by simp⟩
    have := World.var?_cell hg hv j
    rw [Nat.zero_add, this]
    simp
  · cases hv'
abbrev laidL : List (String × DataW Unit) := Go.Proofs.YtbphnigdbffpmaaGreatDoor.Rows.locateKnownRow.laid
set_option maxRecDepth 100000 in
theorem glob_of_laid {w : World} (h : laidMetH Tryz.prog laidL w) : GlobOk gl w := by
  rw [MakeChecks.laidMetH_plain _ _ _ (by kernel_rfl)] at h
  have h2 : laidMet Tryz.prog (("internal/strconv.uint64pow10", Lib.tabData .u64 Lib.pow10Tab) :: laidL.drop 3) w := laidMet.tail (laidMet.tail h)
  have h5 : laidMet Tryz.prog [("verdigris/locate.orders", .agg [Lib.tabData .i64 [0, 1, 2], Lib.tabData .i64 [0, 2, 1], Lib.tabData .i64 [1, 0, 2], Lib.tabData .i64 [1, 2, 0], Lib.tabData .i64 [2, 0, 1], Lib.tabData .i64 [2, 1, 0]])] w := laidMet.tail (laidMet.tail (laidMet.tail h2))
  have g5 : Tryz.prog.globalNamed "internal/strconv.uint64pow10" = some 5 := by kernel_rfl
  have g0 : Tryz.prog.globalNamed "verdigris/locate.orders" = some 0 := by kernel_rfl
  have t5 : (Tryz.prog.globals[5]?).map (·.type) = some 251 := by kernel_rfl
  have t0 : (Tryz.prog.globals[0]?).map (·.type) = some 104 := by kernel_rfl
  have hp := Lib.tabIs_of_head g5 t5 (n := 20) (e := 175) (by kernel_rfl) (by kernel_rfl) (by kernel_rfl) (by kernel_rfl) h2
  obtain ⟨ps, ⟨g', t', cs, fuel, p, q, hg', ht', hvar, hd, _, _⟩, _⟩ := h5
  obtain rfl := Option.some.inj (g0.symm.trans hg')
  obtain rfl := Option.some.inj (t0.symm.trans ht')
  have hcs := cells_of_tab23 (P := Tryz.prog) (t := 104) (e := 67) (i := 3) (k := .i64) (by kernel_rfl) (by kernel_rfl) (by kernel_rfl) (by kernel_rfl) (by kernel_rfl) (by kernel_rfl) hd
  have hvar' : w.var? Tryz.prog "verdigris/locate.orders" = some (([0, 1, 2, 0, 2, 1, 1, 0, 2, 1, 2, 0, 2, 0, 1, 2, 1, 0] : List Int).map fun z => Value.int .i64 z).toArray := by
    rw [hvar, ← Array.toArray_toList (xs := cs), hcs]
    rfl
  intro g x hx
  unfold gl at hx
  split at hx
  · simp only [Option.some.injEq] at hx
    subst hx
    refine glob_arr rfl g0 hvar' fun Γ => ?_
    refine ⟨rfl, fun i => ((([[(0 : Int), 1, 2], [0, 2, 1], [1, 0, 2], [1, 2, 0], [2, 0, 1], [2, 1, 0]] : List (List Int)).getD i [0, 0, 0]).map (Value.int .i64)), rfl, fun i hi => rep_ints ?_⟩
    have : i = 0 ∨ i = 1 ∨ i = 2 ∨ i = 3 ∨ i = 4 ∨ i = 5 := by omega
    rcases this with rfl | rfl | rfl | rfl | rfl | rfl <;> rfl
  · simp only [Option.some.injEq] at hx
    subst hx
    refine glob_arr rfl g5 hp fun Γ => ?_
    exact rep_ints rfl
  · cases hx
end Go.AV
end
section
namespace Go.AV
open Go Go.RowKit Go.Proofs Go.Proofs.Tryz
theorem wide_wide : Wide Fence.wide := ⟨fun _ => trivial, rfl, rfl⟩
theorem calls_of_spec {P : Program} {gl : Nat → Option AV} {f : FuncId} {c : Ctr} (hs : FnSpec P gl f c) (he : ∀ args w, (callFunc f args).run P w = .ok (.enter f args) w)
    {w : World} {ok : Nat → Prop} {args : List Value} {x : denL c.A} {y : denL c.R} (hx : c.G x = some y) (hG : GlobOk gl w) (hok : ∀ b, ok b → b < w.heap.size) (ha : AV.ones (bare w ok) (backL c.A x) args) :
    Calls P f args.toArray w fun e w' => ∃ v, e = .returned v ∧ Below w.heap.size w w' ∧ ∃ ok' : Nat → Prop, (back c.R y).val (bare w' ok') v := by
  have h := hs Fence.wide 0 wide_wide w ok args x y hx hG hok ha
  rw [he] at h
  have h2 : CallsIn Fence.wide 0 P f args.toArray w _ := h
  refine (callsIn_wide.1 h2).mono ?_
  intro e w' h3
  cases e with
  | returned v =>
    obtain ⟨h4, ok', _, _, _, h5⟩ := h3
    exact ⟨v, rfl, h4, ok', h5⟩
  | panicked c => exact h3.elim
  | outgrown => exact h3.elim
end Go.AV
end
section
set_option linter.unusedVariables false
set_option linter.unusedSimpArgs false
set_option maxRecDepth 100000
namespace Go.AV
open Go Go.Proofs
noncomputable section
def lz (d : List Int) : Nat → Nat
  | 0 => 0
  | k + 1 => if d.getD k 0 = 0 then lz d k else k + 1
theorem lz_le (d : List Int) : ∀ k, lz d k ≤ k
  | 0 => Nat.le_refl _
  | k + 1 => by
    simp only [lz]
    split
    · exact Nat.le_succ_of_le (lz_le d k)
    · exact Nat.le_refl _
theorem take_succ' (d : List Int) {k : Nat} (h : k < d.length) : d.take (k + 1) = d.take k ++ [d.getD k 0] := by
  rw [List.take_add_one, List.getElem?_eq_getElem h]
  simp [List.getD_eq_getElem?_getD, h]
theorem lz_take (b : Nat) (d : List Int) : ∀ k, k ≤ d.length → val b (d.take (lz d k)) = val b (d.take k) ∧ (d.take (lz d k)).getLast? ≠ some 0
  | 0, _ => by simp [lz]
  | k + 1, h => by
    simp only [lz]
    split
    · rename_i h0
      have ih := lz_take b d k (by omega)
      refine ⟨?_, ih.2⟩
      rw [ih.1, take_succ' d (by omega), h0]
      have := val_zeros b (d.take k) 1
      simpa using this.symm
    · rename_i h0
      refine ⟨rfl, ?_⟩
      rw [take_succ' d (by omega), List.getLast?_append]
      simp
      exact h0
theorem okD_take {b : Nat} {d : List Int} (h : okD b d) (k : Nat) : okD b (d.take k) := fun x hx => h x (List.mem_of_mem_take hx)
theorem cut_eq {b : Nat} (hb : 2 ≤ b) {d : List Int} (h : okD b d) : d.take (lz d d.length) = dg b (val b d) := by
  have := lz_take b d d.length (Nat.le_refl _)
  rw [List.take_length] at this
  rw [← this.1]
  exact (dg_val hb (okD_take h _) this.2).symm
noncomputable def qjo : Shape := ⟨[.dat (.slice (.int .i64)), .j, .j, .dat (.int .i64), .j, .j, .j, .j, .j, .j, .j, .j, .j, .j, .j, .j, .j, .j, .j, .j, .j], [[]], [], []⟩
noncomputable def ql3 : List (Ex × Shape) := [(.exit 0, ⟨[.dat (.slice (.int .i64)), .j, .j, .dat (.int .i64), .j, .j, .j, .j, .j, .j, .j, .j, .j, .j, .j, .j, .j, .j, .j, .j, .j], [[]], [], []⟩)]
abbrev qmt : Type := (List Int) × Int × Unit
abbrev qmu : Type := ((List Int) × Int × Unit)
noncomputable def qk8 : Env := (Env.mk' tyF fnF gl (lookT []) (lookL []) (fun f c => match Nat.beq f 136 && Nat.beq c 0 with | true => some qjo | false => none))
theorem q10 : EnvAll Tryz.prog qk8 := EnvAll.mk' tabs _ (qb trivial) (qa trivial)
noncomputable def ql2 : List Lp := []
noncomputable def qjp (rec : qmt → Option qmu) (d : (List Int)) (n : Int) : Option qmu :=
  cond' ((decide (n > (0 : Int)))) (
    cond' (decide (0 ≤ (IntKind.i64.wrap (n - (1 : Int))) ∧ (IntKind.i64.wrap (n - (1 : Int))) < ((d.length : Nat) : Int))) (
    cond' (((d.getD ((IntKind.i64.wrap (n - (1 : Int))).toNat) (0 : Int)) == (0 : Int))) (
      rec (d, (IntKind.i64.wrap (n - (1 : Int))), ())) (
      some (d, n, ()))) none) (
    some (d, n, ()))
noncomputable def ql1 : Nat → qmt → Option qmu
  | 0, _ => none
  | n + 1, x => qjp (ql1 n) x.1 x.2.1
theorem qsd (fu : Nat) (d : (List Int)) (n : Int) : ql1 (fu + 1) (d, n, ()) = qjp (ql1 fu) d n := rfl
theorem q0v (fu : Nat) (d : (List Int)) (n : Int) : ev qk8 (fu + 1) 136 0 (.loop (loopAt Tryz.f136 0)) (qjo.enc ql2 (d, n, ())) (exitD ql3) = qjp (fun x => ev qk8 fu 136 0 (.loop (loopAt Tryz.f136 0)) (qjo.enc ql2 x) (exitD ql3)) d n := by kernel_rfl
theorem q2r (n : Nat) (x : qmt) : ev qk8 n 136 0 (.loop (loopAt Tryz.f136 0)) (qjo.enc ql2 x) (exitD ql3) = ql1 n x :=
  fuel_eq (f := fun n x => ev qk8 n 136 0 (.loop (loopAt Tryz.f136 0)) (qjo.enc ql2 x) (exitD ql3)) (st := fun rec x => qjp rec x.1 x.2.1) (fun _ => rfl) (fun n x => q0v n x.1 x.2.1) ql1 (fun _ => rfl) (fun _ _ => rfl) n x
def qog (x : qmt) : Option qmu := wh (0 ≤ x.2.1 ∧ x.2.1 ≤ x.1.length ∧ x.1.length ≤ 1000000) (x.1, ((lz x.1 x.2.1.toNat : Nat) : Int), ())
theorem qtp (d : List Int) (hd : d.length ≤ 1000000) : ∀ (k : Nat) (n : Int), n = k → k ≤ d.length → ql1 (k + 1) (d, n, ()) = some (d, ((lz d k : Nat) : Int), ())
  | 0, n, h, hk => by
    subst h
    rw [qsd]
    simp (disch := omega) only [qjp, cond'_neg, lz]
  | k + 1, n, h, hk => by
    subst h
    have ih := qtp d hd k k rfl (by omega)
    rw [qsd]
    have e2 : (((k + 1 : Nat) : Int)) - 1 = k := by omega
    simp (disch := omega) only [qjp, e2, cond'_pos, w64, Int.toNat_natCast, lz]
    by_cases h0 : d.getD k 0 = 0
    · rw [cond'_eq h0, ih, if_pos h0]
    · rw [cond'_ne h0, if_neg h0]
theorem q2s (x : qmt) (y : qmu) (h : qog x = some y) : ∃ n, ql1 n x = some y := by
  obtain ⟨d, n, ⟨⟩⟩ := x
  obtain ⟨⟨h1, h2, h3⟩, rfl⟩ := wh_some h
  simp only at h1 h2 h3
  exact ⟨_, qtp d h3 n.toNat n (by omega) (by omega)⟩
noncomputable def qw4 : LoopC := ⟨qjo, ql3, qog⟩
theorem q09 : LoopSpec Tryz.prog gl 136 0 qw4 := qd (canon := ql2) .nil (fun c hc x y h => by
  obtain rfl := loopAt_eq (fn := Tryz.f136) Tryz.func136 (by kernel_rfl) hc
  obtain ⟨n, hn⟩ := q2s x y h
  exact ⟨qk8, n, rfl, q10, (q2r n x).trans hn⟩)
noncomputable def qyb : Env := (Env.mk' tyF fnF gl (lookT []) (lookL [(136, 0, [qw4])]) (fun _ _ => none))
theorem q31 : EnvAll Tryz.prog qyb := EnvAll.mk' tabs _ (qb trivial) (qa ⟨⟨q09, trivial⟩, trivial⟩)
noncomputable def ref01_cut (d : (List Int)) : Option ((List Int) × Unit) :=
  (qog (d, ((d.length : Nat) : Int), ())).bind fun y1 =>
  cond' (decide (0 ≤ (0 : Int) ∧ (0 : Int) ≤ y1.2.1 ∧ y1.2.1 ≤ ((y1.1.length : Nat) : Int))) (
  some (((y1.1.take y1.2.1.toNat).drop 0), ())) none
theorem q4l (d : (List Int)) : evFn qyb 50 136 [(false, (.slice (.int .i64)))] [(false, (.slice (.int .i64)))] (d, ()) = ref01_cut d := by kernel_rfl
def qg (x : List Int × Unit) : Option (List Int × Unit) := wh (okB 10000 x.1 = true ∧ x.1.length ≤ 1000000) (dg 10000 (val 10000 x.1), ())
theorem q4m (x : List Int × Unit) (y : List Int × Unit) (h : qg x = some y) : ref01_cut x.1 = some y := by
  obtain ⟨d, ⟨⟩⟩ := x
  obtain ⟨⟨h1, h2⟩, rfl⟩ := wh_some h
  simp only at h1 h2
  have h3 := lz_le d d.length
  simp (disch := omega) only [ref01_cut, qog, wh_pos, Option.bind_some, cond'_pos, Int.toNat_natCast, List.drop_zero]
  rw [cut_eq (by omega) (okB_iff.1 h1)]
theorem spec_ref01_cut : FnSpec Tryz.prog gl 136 ⟨[(false, (.slice (.int .i64)))], [(false, (.slice (.int .i64)))], qg⟩ := qe fun x y h => ⟨qyb, 50, rfl, q31, (q4l x.1).trans (q4m x y h)⟩
def pl (z : Int) : Bool × List Int × Unit := (decide (z < 0), dg 10000 z.natAbs, ())
noncomputable def qvc : Env := (Env.mk' tyF fnF gl (lookT [(136, ⟨[(false, (.slice (.int .i64)))], [(false, (.slice (.int .i64)))], qg⟩)]) (lookL []) (fun _ _ => none))
theorem q3g : EnvAll Tryz.prog qvc := EnvAll.mk' tabs _ (qb ⟨spec_ref01_cut, trivial⟩) (qa trivial)
noncomputable def ref01_made (below : Bool) (d : (List Int)) : Option ((Bool × ((List Int) × Unit)) × Unit) :=
  (qg (d, ())).bind fun y1 =>
  cond' (below) (
    some (((decide (((y1.1.length : Nat) : Int) > (0 : Int))), y1.1, ()), ())) (
    some ((false, y1.1, ()), ()))
theorem q34 (below : Bool) (d : (List Int)) : evFn qvc 50 103 [(false, .bool), (false, (.slice (.int .i64)))] [(false, (.prod .bool (.prod (.slice (.int .i64)) .unit)))] (below, d, ()) = ref01_made below d := by kernel_rfl
def qaa (x : Bool × List Int × Unit) : Option ((Bool × List Int × Unit) × Unit) := wh (okB 10000 x.2.1 = true ∧ x.2.1.length ≤ 1000000) ((x.1 && decide (0 < val 10000 x.2.1), dg 10000 (val 10000 x.2.1), ()), ())
theorem q35 (x : Bool × List Int × Unit) (y : (Bool × List Int × Unit) × Unit) (h : qaa x = some y) : ref01_made x.1 x.2.1 = some y := by
  obtain ⟨below, d, ⟨⟩⟩ := x
  obtain ⟨h1, rfl⟩ := wh_some h
  simp only at h1
  simp only [ref01_made, qg, wh_pos h1, Option.bind_some]
  have e : decide (((dg 10000 (val 10000 d)).length : Int) > 0) = decide (0 < val 10000 d) := by
    rw [decide_eq_decide]
    constructor
    · intro h0
      rcases Nat.eq_zero_or_pos (val 10000 d) with h2 | h2
      · rw [h2] at h0; simp at h0
      · exact h2
    · intro h0
      rw [dg_pos (by omega) h0]
      simp
  rw [e]
  cases below <;> rfl
theorem spec_ref01_made : FnSpec Tryz.prog gl 103 ⟨[(false, .bool), (false, (.slice (.int .i64)))], [(false, (.prod .bool (.prod (.slice (.int .i64)) .unit)))], qaa⟩ := qe fun x y h => ⟨qvc, 50, rfl, q3g, (q34 x.1 x.2.1).trans (q35 x y h)⟩
noncomputable def qc8 : Shape := ⟨[.dat (.int .i64), .j, .loc 0 [], .own 1 (.int .i64), .dat .bool, .j, .j, .j, .j, .j, .j, .j, .j, .j, .j, .j, .j, .j, .j, .j, .j, .j, .j, .j, .j], [[]], [.box false (.agg [.dat .bool, .nils]), .row false (.int .i64)], []⟩
noncomputable def qgl : List (Ex × Shape) := [(.exit 0, ⟨[.j, .j, .loc 0 [], .own 1 (.int .i64), .dat .bool, .j, .j, .j, .j, .j, .j, .j, .j, .j, .j, .j, .j, .j, .j, .j, .j, .j, .j, .j, .j], [[]], [.box false (.agg [.dat .bool, .nils]), .row false (.int .i64)], []⟩)]
abbrev qic : Type := Int × Bool × Bool × (List Int) × Unit
abbrev qid : Type := (Bool × Bool × (List Int) × Unit)
noncomputable def qel : Env := (Env.mk' tyF fnF gl (lookT []) (lookL []) (fun f c => match Nat.beq f 89 && Nat.beq c 0 with | true => some qc8 | false => none))
theorem qwp : EnvAll Tryz.prog qel := EnvAll.mk' tabs _ (qb trivial) (qa trivial)
noncomputable def qgk : List Lp := []
noncomputable def qgm (rec : qic → Option qid) (n : Int) (below : Bool) (v : Bool) (d : (List Int)) : Option qid :=
  cond' ((n != (0 : Int))) (
    cond' ((decide ((n.tmod (10000 : Int)) < (0 : Int)))) (
      cond' (decide ((d.length + [(IntKind.i64.wrap (0 - (n.tmod (10000 : Int))))].length) * 8 ≤ 140737488355328)) (
      rec ((IntKind.i64.wrap (n.tdiv (10000 : Int))), below, v, (d ++ [(IntKind.i64.wrap (0 - (n.tmod (10000 : Int))))]), ())) none) (
      cond' (decide ((d.length + [(n.tmod (10000 : Int))].length) * 8 ≤ 140737488355328)) (
      rec ((IntKind.i64.wrap (n.tdiv (10000 : Int))), below, v, (d ++ [(n.tmod (10000 : Int))]), ())) none)) (
    some (below, v, d, ()))
noncomputable def qew : Nat → qic → Option qid
  | 0, _ => none
  | n + 1, x => qgm (qew n) x.1 x.2.1 x.2.2.1 x.2.2.2.1
theorem qu5 (fu : Nat) (n : Int) (below : Bool) (v : Bool) (d : (List Int)) : qew (fu + 1) (n, below, v, d, ()) = qgm (qew fu) n below v d := rfl
theorem qu4 (fu : Nat) (n : Int) (below : Bool) (v : Bool) (d : (List Int)) : ev qel (fu + 1) 89 0 (.loop (loopAt Tryz.f89 0)) (qc8.enc qgk (n, below, v, d, ())) (exitD qgl) = qgm (fun x => ev qel fu 89 0 (.loop (loopAt Tryz.f89 0)) (qc8.enc qgk x) (exitD qgl)) n below v d := by kernel_rfl
theorem qx8 (n : Nat) (x : qic) : ev qel n 89 0 (.loop (loopAt Tryz.f89 0)) (qc8.enc qgk x) (exitD qgl) = qew n x :=
  fuel_eq (f := fun n x => ev qel n 89 0 (.loop (loopAt Tryz.f89 0)) (qc8.enc qgk x) (exitD qgl)) (st := fun rec x => qgm rec x.1 x.2.1 x.2.2.1 x.2.2.2.1) (fun _ => rfl) (fun n x => qu4 n x.1 x.2.1 x.2.2.1 x.2.2.2.1) qew (fun _ => rfl) (fun _ _ => rfl) n x
def qll (x : qic) : Option qid := wh (-9223372036854775808 ≤ x.1 ∧ x.1 < 9223372036854775808 ∧ x.2.2.2.1.length ≤ 1000) (x.2.1, x.2.2.1, x.2.2.2.1 ++ dg 10000 x.1.natAbs, ())
theorem qph (below v : Bool) : ∀ (k : Nat) (n : Int) (d : List Int), n.natAbs ≤ k → -9223372036854775808 ≤ n → n < 9223372036854775808 → (d.length + (dg 10000 n.natAbs).length) ≤ 100000 →
    qew (k + 1) (n, below, v, d, ()) = some (below, v, d ++ dg 10000 n.natAbs, ())
  | k, n, d, hk, h1, h2, h3 => by
    rw [qu5]
    simp only [qgm]
    by_cases h0 : n = 0
    · subst h0
      rw [cond'_bne_eq rfl]
      simp
    · have hpos : 0 < n.natAbs := by omega
      rw [dg_pos (by omega) hpos] at h3 ⊢
      simp only [List.length_cons] at h3
      obtain ⟨k', rfl⟩ : ∃ k', k = k' + 1 := ⟨k - 1, by omega⟩
      have ht := tdm n 10000
      have hq : (n.tdiv 10000).natAbs = n.natAbs / 10000 := by omega
      have ih := fun d' => qph below v k' (n.tdiv 10000) d' (by omega) (by omega) (by omega)
      rw [hq] at ih
      rw [cond'_bne_ne h0]
      by_cases hn : n.tmod 10000 < 0
      · have e : 0 - n.tmod 10000 = ((n.natAbs % 10000 : Nat) : Int) := by omega
        simp (disch := first | omega | (simp only [List.length_cons, List.length_nil]; omega)) only [cond'_pos, w64, e]
        rw [ih _ (by simp; omega)]
        simp
      · have e : n.tmod 10000 = ((n.natAbs % 10000 : Nat) : Int) := by omega
        simp (disch := first | omega | (simp only [List.length_cons, List.length_nil]; omega)) only [cond'_pos, cond'_neg, w64, e]
        rw [ih _ (by simp; omega)]
        simp
theorem qx9 (x : qic) (y : qid) (h : qll x = some y) : ∃ n, qew n x = some y := by
  obtain ⟨n, below, v, d, ⟨⟩⟩ := x
  obtain ⟨⟨h1, h2, h3⟩, rfl⟩ := wh_some h
  simp only at h1 h2 h3
  have := dg_len_le (b := 10000) (by omega) 5 n.natAbs (by have : (10000 : Nat) ^ 5 = 100000000000000000000 := by decide
                                                           omega)
  exact ⟨_, qph below v n.natAbs n d (Nat.le_refl _) h1 h2 (by omega)⟩
noncomputable def qqx : LoopC := ⟨qc8, qgl, qll⟩
theorem qvk : LoopSpec Tryz.prog gl 89 0 qqx := qd (canon := qgk) .nil (fun c hc x y h => by
  obtain rfl := loopAt_eq (fn := Tryz.f89) Tryz.func89 (by kernel_rfl) hc
  obtain ⟨n, hn⟩ := qx9 x y h
  exact ⟨qel, n, rfl, qwp, (qx8 n x).trans hn⟩)
noncomputable def qp7 : Env := (Env.mk' tyF fnF gl (lookT [(103, ⟨[(false, .bool), (false, (.slice (.int .i64)))], [(false, (.prod .bool (.prod (.slice (.int .i64)) .unit)))], qaa⟩)]) (lookL [(89, 0, [qqx])]) (fun _ _ => none))
theorem q0s : EnvAll Tryz.prog qp7 := EnvAll.mk' tabs _ (qb ⟨spec_ref01_made, trivial⟩) (qa ⟨⟨qvk, trivial⟩, trivial⟩)
noncomputable def ref01_Integer (n : Int) : Option ((Bool × ((List Int) × Unit)) × Unit) :=
  (qll (n, (decide (n < (0 : Int))), false, ([] : List Int), ())).bind fun y1 =>
  (qaa (y1.1, y1.2.2.1, ())).bind fun y2 =>
  some (y2.1, ())
theorem q1u (n : Int) : evFn qp7 50 89 [(false, (.int .i64))] [(false, (.prod .bool (.prod (.slice (.int .i64)) .unit)))] (n, ()) = ref01_Integer n := by kernel_rfl
theorem dg_okB (n : Nat) : okB 10000 (dg 10000 n) = true := okB_iff.2 (dg_ok (by omega) n)
theorem val_dg4 (n : Nat) : val 10000 (dg 10000 n) = n := val_dg (by omega) n
theorem made_dg (below : Bool) (n : Nat) (h : (dg 10000 n).length ≤ 1000000) : qaa (below, dg 10000 n, ()) = some ((below && decide (0 < n), dg 10000 n, ()), ()) := by
  simp only [qaa, val_dg4]
  exact wh_pos ⟨dg_okB n, h⟩
theorem dg_len_i64 {n : Int} (h1 : -9223372036854775808 ≤ n) (h2 : n < 9223372036854775808) : (dg 10000 n.natAbs).length ≤ 5 :=
  dg_len_le (b := 10000) (by omega) 5 n.natAbs (by have : (10000 : Nat) ^ 5 = 100000000000000000000 := by decide
                                                   omega)
def q9 (x : Int × Unit) : Option ((Bool × List Int × Unit) × Unit) := wh (-9223372036854775808 ≤ x.1 ∧ x.1 < 9223372036854775808) (pl x.1, ())
theorem q1v (x : Int × Unit) (y : (Bool × List Int × Unit) × Unit) (h : q9 x = some y) : ref01_Integer x.1 = some y := by
  obtain ⟨n, ⟨⟩⟩ := x
  obtain ⟨⟨h1, h2⟩, rfl⟩ := wh_some h
  simp only at h1 h2
  have hl := dg_len_i64 h1 h2
  simp only [ref01_Integer, qll]
  rw [wh_pos ⟨h1, h2, by simp⟩]
  simp only [Option.bind_some, List.nil_append]
  rw [made_dg _ _ (by omega)]
  simp only [Option.bind_some, pl]
  congr 4
  by_cases hn : n < 0
  · simp [hn]; omega
  · simp [hn]
theorem spec_ref01_Integer : FnSpec Tryz.prog gl 89 ⟨[(false, (.int .i64))], [(false, (.prod .bool (.prod (.slice (.int .i64)) .unit)))], q9⟩ := qe fun x y h => ⟨qp7, 50, rfl, q0s, (q1u x.1).trans (q1v x y h)⟩
end
end Go.AV
end
section
set_option linter.unusedVariables false
set_option linter.unusedSimpArgs false
set_option maxRecDepth 100000
namespace Go.AV
open Go Go.Proofs
noncomputable section
theorem val_drop (b : Nat) (a : List Int) (i : Nat) : val b (a.drop i) = (a.getD i 0).toNat + b * val b (a.drop (i + 1)) := by
  rcases Nat.lt_or_ge i a.length with h | h
  · rw [List.drop_eq_getElem_cons h, val_cons]
    simp [List.getD_eq_getElem?_getD, h]
  · rw [List.drop_eq_nil_of_le h, List.drop_eq_nil_of_le (by omega)]
    simp [List.getD_eq_getElem?_getD, h]
theorem okD_get {b : Nat} {a : List Int} (h : okD b a) (hb : 0 < b) (i : Nat) : 0 ≤ a.getD i 0 ∧ a.getD i 0 < b := by
  rcases Nat.lt_or_ge i a.length with hi | hi
  · have := h a[i] (List.getElem_mem hi)
    simpa [List.getD_eq_getElem?_getD, hi] using this
  · simp [List.getD_eq_getElem?_getD, hi]
    omega
theorem drop_dg {b : Nat} (hb : 2 ≤ b) : ∀ (i n : Nat), (dg b n).drop i = dg b (n / b ^ i)
  | 0, n => by simp
  | i + 1, n => by
    rcases Nat.eq_zero_or_pos n with rfl | hn
    · simp
    · rw [dg_pos hb hn, List.drop_succ_cons, drop_dg hb i, Nat.div_div_eq_div_mul, Nat.pow_succ, Nat.mul_comm]
theorem val_drop_pos {b : Nat} (hb : 2 ≤ b) {n i : Nat} : 0 < val b ((dg b n).drop i) ↔ i < (dg b n).length := by
  rw [drop_dg hb, val_dg hb]
  constructor
  · intro h
    rcases Nat.lt_or_ge i (dg b n).length with h' | h'
    · exact h'
    · have h1 : (dg b n).drop i = [] := List.drop_eq_nil_of_le h'
      rw [drop_dg hb, dg_nil hb] at h1
      omega
  · intro h
    rcases Nat.eq_zero_or_pos (n / b ^ i) with h0 | h0
    · have h1 : (dg b n).drop i = [] := by rw [drop_dg hb, h0]; rfl
      have := List.drop_eq_nil_iff.1 h1
      omega
    · exact h0
theorem getD_none {a : List Int} {i : Nat} (h : a.length ≤ i) : a.getD i 0 = 0 := by simp [List.getD_eq_getElem?_getD, h]
noncomputable def qjz : Shape := ⟨[.dat (.slice (.int .i64)), .dat (.slice (.int .i64)), .j, .j, .j, .own 0 (.int .i64), .dat (.int .i64), .dat (.int .i64), .j, .j, .j, .j, .j, .j, .j, .j, .j, .j, .j, .j, .j, .j, .j, .j, .j, .j, .j, .j, .j, .j, .j, .j, .j, .j, .j, .j, .j, .j, .j, .j, .j, .j, .j, .j, .j, .j, .j, .j, .j, .j, .j, .j], [[]], [.row false (.int .i64)], []⟩
noncomputable def ql7 : List (Ex × Shape) := [(.exit 0, ⟨[.j, .j, .j, .j, .j, .own 0 (.int .i64), .j, .j, .j, .j, .j, .j, .j, .j, .j, .j, .j, .j, .j, .j, .j, .j, .j, .j, .j, .j, .j, .j, .j, .j, .j, .j, .j, .j, .j, .j, .j, .j, .j, .j, .j, .j, .j, .j, .j, .j, .j, .j, .j, .j, .j, .j], [[]], [.row false (.int .i64)], []⟩)]
abbrev qmv : Type := (List Int) × (List Int) × Int × Int × (List Int) × Unit
abbrev qmw : Type := ((List Int) × Unit)
noncomputable def qk9 : Env := (Env.mk' tyF fnF gl (lookT []) (lookL []) (fun f c => match Nat.beq f 161 && Nat.beq c 0 with | true => some qjz | false => none))
theorem q15 : EnvAll Tryz.prog qk9 := EnvAll.mk' tabs _ (qb trivial) (qa trivial)
noncomputable def ql6 : List Lp := []
noncomputable def qby (rec : qmv → Option qmw) (a : (List Int)) (b : (List Int)) (carry : Int) (i : Int) (out : (List Int)) : Option qmw :=
  cond' ((decide (i < ((a.length : Nat) : Int)))) (
    cond' ((decide (i < ((a.length : Nat) : Int)))) (
      cond' (decide (0 ≤ i ∧ i < ((a.length : Nat) : Int))) (
      cond' ((decide (i < ((b.length : Nat) : Int)))) (
        cond' (decide (0 ≤ i ∧ i < ((b.length : Nat) : Int))) (
        cond' (decide ((out.length + [((IntKind.i64.wrap ((IntKind.i64.wrap (carry + (a.getD i.toNat (0 : Int)))) + (b.getD i.toNat (0 : Int)))).tmod (10000 : Int))].length) * 8 ≤ 140737488355328)) (
        rec (a, b, (IntKind.i64.wrap ((IntKind.i64.wrap ((IntKind.i64.wrap (carry + (a.getD i.toNat (0 : Int)))) + (b.getD i.toNat (0 : Int)))).tdiv (10000 : Int))), (IntKind.i64.wrap (i + (1 : Int))), (out ++ [((IntKind.i64.wrap ((IntKind.i64.wrap (carry + (a.getD i.toNat (0 : Int)))) + (b.getD i.toNat (0 : Int)))).tmod (10000 : Int))]), ())) none) none) (
        cond' (decide ((out.length + [((IntKind.i64.wrap (carry + (a.getD i.toNat (0 : Int)))).tmod (10000 : Int))].length) * 8 ≤ 140737488355328)) (
        rec (a, b, (IntKind.i64.wrap ((IntKind.i64.wrap (carry + (a.getD i.toNat (0 : Int)))).tdiv (10000 : Int))), (IntKind.i64.wrap (i + (1 : Int))), (out ++ [((IntKind.i64.wrap (carry + (a.getD i.toNat (0 : Int)))).tmod (10000 : Int))]), ())) none)) none) (
      cond' ((decide (i < ((b.length : Nat) : Int)))) (
        cond' (decide (0 ≤ i ∧ i < ((b.length : Nat) : Int))) (
        cond' (decide ((out.length + [((IntKind.i64.wrap (carry + (b.getD i.toNat (0 : Int)))).tmod (10000 : Int))].length) * 8 ≤ 140737488355328)) (
        rec (a, b, (IntKind.i64.wrap ((IntKind.i64.wrap (carry + (b.getD i.toNat (0 : Int)))).tdiv (10000 : Int))), (IntKind.i64.wrap (i + (1 : Int))), (out ++ [((IntKind.i64.wrap (carry + (b.getD i.toNat (0 : Int)))).tmod (10000 : Int))]), ())) none) none) (
        cond' (decide ((out.length + [(carry.tmod (10000 : Int))].length) * 8 ≤ 140737488355328)) (
        rec (a, b, (IntKind.i64.wrap (carry.tdiv (10000 : Int))), (IntKind.i64.wrap (i + (1 : Int))), (out ++ [(carry.tmod (10000 : Int))]), ())) none))) (
    cond' ((decide (i < ((b.length : Nat) : Int)))) (
      cond' ((decide (i < ((a.length : Nat) : Int)))) (
        cond' (decide (0 ≤ i ∧ i < ((a.length : Nat) : Int))) (
        cond' ((decide (i < ((b.length : Nat) : Int)))) (
          cond' (decide (0 ≤ i ∧ i < ((b.length : Nat) : Int))) (
          cond' (decide ((out.length + [((IntKind.i64.wrap ((IntKind.i64.wrap (carry + (a.getD i.toNat (0 : Int)))) + (b.getD i.toNat (0 : Int)))).tmod (10000 : Int))].length) * 8 ≤ 140737488355328)) (
          rec (a, b, (IntKind.i64.wrap ((IntKind.i64.wrap ((IntKind.i64.wrap (carry + (a.getD i.toNat (0 : Int)))) + (b.getD i.toNat (0 : Int)))).tdiv (10000 : Int))), (IntKind.i64.wrap (i + (1 : Int))), (out ++ [((IntKind.i64.wrap ((IntKind.i64.wrap (carry + (a.getD i.toNat (0 : Int)))) + (b.getD i.toNat (0 : Int)))).tmod (10000 : Int))]), ())) none) none) (
          cond' (decide ((out.length + [((IntKind.i64.wrap (carry + (a.getD i.toNat (0 : Int)))).tmod (10000 : Int))].length) * 8 ≤ 140737488355328)) (
          rec (a, b, (IntKind.i64.wrap ((IntKind.i64.wrap (carry + (a.getD i.toNat (0 : Int)))).tdiv (10000 : Int))), (IntKind.i64.wrap (i + (1 : Int))), (out ++ [((IntKind.i64.wrap (carry + (a.getD i.toNat (0 : Int)))).tmod (10000 : Int))]), ())) none)) none) (
        cond' ((decide (i < ((b.length : Nat) : Int)))) (
          cond' (decide (0 ≤ i ∧ i < ((b.length : Nat) : Int))) (
          cond' (decide ((out.length + [((IntKind.i64.wrap (carry + (b.getD i.toNat (0 : Int)))).tmod (10000 : Int))].length) * 8 ≤ 140737488355328)) (
          rec (a, b, (IntKind.i64.wrap ((IntKind.i64.wrap (carry + (b.getD i.toNat (0 : Int)))).tdiv (10000 : Int))), (IntKind.i64.wrap (i + (1 : Int))), (out ++ [((IntKind.i64.wrap (carry + (b.getD i.toNat (0 : Int)))).tmod (10000 : Int))]), ())) none) none) (
          cond' (decide ((out.length + [(carry.tmod (10000 : Int))].length) * 8 ≤ 140737488355328)) (
          rec (a, b, (IntKind.i64.wrap (carry.tdiv (10000 : Int))), (IntKind.i64.wrap (i + (1 : Int))), (out ++ [(carry.tmod (10000 : Int))]), ())) none))) (
      cond' ((decide (carry > (0 : Int)))) (
        cond' ((decide (i < ((a.length : Nat) : Int)))) (
          cond' (decide (0 ≤ i ∧ i < ((a.length : Nat) : Int))) (
          cond' ((decide (i < ((b.length : Nat) : Int)))) (
            cond' (decide (0 ≤ i ∧ i < ((b.length : Nat) : Int))) (
            cond' (decide ((out.length + [((IntKind.i64.wrap ((IntKind.i64.wrap (carry + (a.getD i.toNat (0 : Int)))) + (b.getD i.toNat (0 : Int)))).tmod (10000 : Int))].length) * 8 ≤ 140737488355328)) (
            rec (a, b, (IntKind.i64.wrap ((IntKind.i64.wrap ((IntKind.i64.wrap (carry + (a.getD i.toNat (0 : Int)))) + (b.getD i.toNat (0 : Int)))).tdiv (10000 : Int))), (IntKind.i64.wrap (i + (1 : Int))), (out ++ [((IntKind.i64.wrap ((IntKind.i64.wrap (carry + (a.getD i.toNat (0 : Int)))) + (b.getD i.toNat (0 : Int)))).tmod (10000 : Int))]), ())) none) none) (
            cond' (decide ((out.length + [((IntKind.i64.wrap (carry + (a.getD i.toNat (0 : Int)))).tmod (10000 : Int))].length) * 8 ≤ 140737488355328)) (
            rec (a, b, (IntKind.i64.wrap ((IntKind.i64.wrap (carry + (a.getD i.toNat (0 : Int)))).tdiv (10000 : Int))), (IntKind.i64.wrap (i + (1 : Int))), (out ++ [((IntKind.i64.wrap (carry + (a.getD i.toNat (0 : Int)))).tmod (10000 : Int))]), ())) none)) none) (
          cond' ((decide (i < ((b.length : Nat) : Int)))) (
            cond' (decide (0 ≤ i ∧ i < ((b.length : Nat) : Int))) (
            cond' (decide ((out.length + [((IntKind.i64.wrap (carry + (b.getD i.toNat (0 : Int)))).tmod (10000 : Int))].length) * 8 ≤ 140737488355328)) (
            rec (a, b, (IntKind.i64.wrap ((IntKind.i64.wrap (carry + (b.getD i.toNat (0 : Int)))).tdiv (10000 : Int))), (IntKind.i64.wrap (i + (1 : Int))), (out ++ [((IntKind.i64.wrap (carry + (b.getD i.toNat (0 : Int)))).tmod (10000 : Int))]), ())) none) none) (
            cond' (decide ((out.length + [(carry.tmod (10000 : Int))].length) * 8 ≤ 140737488355328)) (
            rec (a, b, (IntKind.i64.wrap (carry.tdiv (10000 : Int))), (IntKind.i64.wrap (i + (1 : Int))), (out ++ [(carry.tmod (10000 : Int))]), ())) none))) (
        some (out, ()))))
noncomputable def qj1 : Nat → qmv → Option qmw
  | 0, _ => none
  | n + 1, x => qby (qj1 n) x.1 x.2.1 x.2.2.1 x.2.2.2.1 x.2.2.2.2.1
theorem q07 (fu : Nat) (a : (List Int)) (b : (List Int)) (carry : Int) (i : Int) (out : (List Int)) : qj1 (fu + 1) (a, b, carry, i, out, ()) = qby (qj1 fu) a b carry i out := rfl
theorem q06 (fu : Nat) (a : (List Int)) (b : (List Int)) (carry : Int) (i : Int) (out : (List Int)) : ev qk9 (fu + 1) 161 0 (.loop (loopAt Tryz.f161 0)) (qjz.enc ql6 (a, b, carry, i, out, ())) (exitD ql7) = qby (fun x => ev qk9 fu 161 0 (.loop (loopAt Tryz.f161 0)) (qjz.enc ql6 x) (exitD ql7)) a b carry i out := by kernel_rfl
theorem q2v (n : Nat) (x : qmv) : ev qk9 n 161 0 (.loop (loopAt Tryz.f161 0)) (qjz.enc ql6 x) (exitD ql7) = qj1 n x :=
  fuel_eq (f := fun n x => ev qk9 n 161 0 (.loop (loopAt Tryz.f161 0)) (qjz.enc ql6 x) (exitD ql7)) (st := fun rec x => qby rec x.1 x.2.1 x.2.2.1 x.2.2.2.1 x.2.2.2.2.1) (fun _ => rfl) (fun n x => q06 n x.1 x.2.1 x.2.2.1 x.2.2.2.1 x.2.2.2.2.1) qj1 (fun _ => rfl) (fun _ _ => rfl) n x
theorem qtu (m n : Nat) (hm : (dg 10000 m).length ≤ 200000) (hn : (dg 10000 n).length ≤ 200000) : ∀ (k : Nat) (c : Int) (i : Nat) (out : List Int), 0 ≤ c → c ≤ 1 →
    (dg 10000 (val 10000 ((dg 10000 m).drop i) + val 10000 ((dg 10000 n).drop i) + c.toNat)).length ≤ k → i + k ≤ 1000000 → out.length ≤ i →
    qj1 (k + 1) (dg 10000 m, dg 10000 n, c, i, out, ()) = some (out ++ dg 10000 (val 10000 ((dg 10000 m).drop i) + val 10000 ((dg 10000 n).drop i) + c.toNat), ())
  | k, c, i, out, hc0, hc1, hk, hi, ho => by
    rw [q07]
    have pm := val_drop_pos (b := 10000) (by omega) (n := m) (i := i)
    have pn := val_drop_pos (b := 10000) (by omega) (n := n) (i := i)
    have gm := okD_get (dg_ok (b := 10000) (by omega) m) (by omega) i
    have gn := okD_get (dg_ok (b := 10000) (by omega) n) (by omega) i
    have vm := val_drop 10000 (dg 10000 m) i
    have vn := val_drop 10000 (dg 10000 n) i
    generalize hN : val 10000 ((dg 10000 m).drop i) + val 10000 ((dg 10000 n).drop i) + c.toNat = N at hk ⊢
    by_cases hz : N = 0
    · subst hz
      simp (disch := omega) only [qby, cond'_neg, dg_zero, List.append_nil]
    · obtain ⟨k', rfl⟩ : ∃ k', k = k' + 1 := ⟨k - 1, by
        rw [dg_pos (n := N) (by omega) (by omega)] at hk
        simp only [List.length_cons] at hk
        omega⟩
      rw [dg_pos (n := N) (by omega) (by omega)] at hk ⊢
      simp only [List.length_cons, Nat.add_le_add_iff_right] at hk
      have step : ∀ (x y : Int), x = (dg 10000 m).getD i 0 → y = (dg 10000 n).getD i 0 → qj1 (k' + 1) (dg 10000 m, dg 10000 n, (c + x + y) / 10000, (i : Int) + 1, out ++ [(c + x + y) % 10000], ()) =
          some (out ++ (((N % 10000 : Nat) : Int) :: dg 10000 (N / 10000)), ()) := by
        intro x y hx hy
        have ih := qtu m n hm hn k' ((c + x + y) / 10000) (i + 1) (out ++ [(c + x + y) % 10000]) (by omega) (by omega)
        have e : val 10000 ((dg 10000 m).drop (i + 1)) + val 10000 ((dg 10000 n).drop (i + 1)) + ((c + x + y) / 10000).toNat = N / 10000 := by omega
        rw [e] at ih
        have := ih hk (by omega) (by simp; omega)
        rw [show (((i + 1 : Nat) : Int)) = (i : Int) + 1 by omega] at this
        rw [this, List.append_assoc]
        have e2 : (c + x + y) % 10000 = ((N % 10000 : Nat) : Int) := by omega
        rw [e2]
        rfl
      by_cases ha : i < (dg 10000 m).length
      · by_cases hb : i < (dg 10000 n).length
        · have := step _ _ rfl rfl
          simp (disch := first | omega | (simp only [List.length_cons, List.length_nil]; omega)) only [qby, cond'_pos, cond'_neg, w64, Int.toNat_natCast, Int.tdiv_eq_ediv_of_nonneg, Int.tmod_eq_emod_of_nonneg]
          exact this
        · have := step _ 0 rfl (getD_none (by omega)).symm
          rw [Int.add_zero] at this
          simp (disch := first | omega | (simp only [List.length_cons, List.length_nil]; omega)) only [qby, cond'_pos, cond'_neg, w64, Int.toNat_natCast, Int.tdiv_eq_ediv_of_nonneg, Int.tmod_eq_emod_of_nonneg]
          exact this
      · by_cases hb : i < (dg 10000 n).length
        · have := step 0 _ (getD_none (by omega)).symm rfl
          rw [Int.add_zero] at this
          simp (disch := first | omega | (simp only [List.length_cons, List.length_nil]; omega)) only [qby, cond'_pos, cond'_neg, w64, Int.toNat_natCast, Int.tdiv_eq_ediv_of_nonneg, Int.tmod_eq_emod_of_nonneg]
          exact this
        · have := step 0 0 (getD_none (by omega)).symm (getD_none (by omega)).symm
          rw [Int.add_zero, Int.add_zero] at this
          simp (disch := first | omega | (simp only [List.length_cons, List.length_nil]; omega)) only [qby, cond'_pos, cond'_neg, w64, Int.toNat_natCast, Int.tdiv_eq_ediv_of_nonneg, Int.tmod_eq_emod_of_nonneg]
          exact this
def small (K : Nat) (a : List Int) : Prop := isDg 10000 K a
instance (K : Nat) (a : List Int) : Decidable (small K a) := inferInstanceAs (Decidable (isDg _ _ _))
theorem small_dg {K n : Nat} (h : (dg 10000 n).length ≤ K) : small K (dg 10000 n) := ⟨by rw [val_dg4], h⟩
theorem small_ex {K : Nat} {a : List Int} (h : small K a) : ∃ n, a = dg 10000 n ∧ (dg 10000 n).length ≤ K := ⟨val 10000 a, h.1, by rw [← h.1]; exact h.2⟩
def qoh (x : qmv) : Option qmw := wh (small 100000 x.1 ∧ small 100000 x.2.1 ∧ x.2.2.1 = 0 ∧ x.2.2.2.1 = 0 ∧ x.2.2.2.2.1 = []) (dg 10000 (val 10000 x.1 + val 10000 x.2.1), ())
theorem dg_len_add (m n : Nat) : (dg 10000 (m + n)).length ≤ (dg 10000 m).length + (dg 10000 n).length + 1 := by
  apply dg_len_le (by omega)
  have h1 := lt_dg_len (b := 10000) (by omega) m
  have h2 := lt_dg_len (b := 10000) (by omega) n
  have h3 : 10000 ^ (dg 10000 m).length ≤ 10000 ^ ((dg 10000 m).length + (dg 10000 n).length) := Nat.pow_le_pow_right (by omega) (by omega)
  have h4 : 10000 ^ (dg 10000 n).length ≤ 10000 ^ ((dg 10000 m).length + (dg 10000 n).length) := Nat.pow_le_pow_right (by omega) (by omega)
  rw [Nat.pow_succ]
  omega
theorem q2w (x : qmv) (y : qmw) (h : qoh x = some y) : ∃ n, qj1 n x = some y := by
  obtain ⟨a, b, c, i, out, ⟨⟩⟩ := x
  obtain ⟨⟨h1, h2, h3, h4, h5⟩, rfl⟩ := wh_some h
  simp only at h1 h2 h3 h4 h5
  subst h3; subst h4; subst h5
  obtain ⟨m, rfl, hm⟩ := small_ex h1
  obtain ⟨n, rfl, hn⟩ := small_ex h2
  simp only [val_dg4]
  have h := qtu m n (by omega) (by omega) _ 0 0 [] (by omega) (by omega) (Nat.le_refl _) (by
    have := dg_len_add m n
    simp [val_dg4]
    omega) (by simp)
  simp [val_dg4] at h
  exact ⟨_, h⟩
noncomputable def qw5 : LoopC := ⟨qjz, ql7, qoh⟩
theorem q1a : LoopSpec Tryz.prog gl 161 0 qw5 := qd (canon := ql6) .nil (fun c hc x y h => by
  obtain rfl := loopAt_eq (fn := Tryz.f161) Tryz.func161 (by kernel_rfl) hc
  obtain ⟨n, hn⟩ := q2w x y h
  exact ⟨qk9, n, rfl, q15, (q2v n x).trans hn⟩)
noncomputable def qyn : Env := (Env.mk' tyF fnF gl (lookT []) (lookL [(161, 0, [qw5])]) (fun _ _ => none))
theorem q38 : EnvAll Tryz.prog qyn := EnvAll.mk' tabs _ (qb trivial) (qa ⟨⟨q1a, trivial⟩, trivial⟩)
noncomputable def ref01_sum (a : (List Int)) (b : (List Int)) : Option ((List Int) × Unit) :=
  (qoh (a, b, (0 : Int), (0 : Int), ([] : List Int), ())).bind fun y1 =>
  some (y1.1, ())
theorem q4n (a : (List Int)) (b : (List Int)) : evFn qyn 50 161 [(false, (.slice (.int .i64))), (false, (.slice (.int .i64)))] [(false, (.slice (.int .i64)))] (a, b, ()) = ref01_sum a b := by kernel_rfl
def qn9 (x : List Int × List Int × Unit) : Option (List Int × Unit) := wh (small 100000 x.1 ∧ small 100000 x.2.1) (dg 10000 (val 10000 x.1 + val 10000 x.2.1), ())
theorem q4o (x : List Int × List Int × Unit) (y : List Int × Unit) (h : qn9 x = some y) : ref01_sum x.1 x.2.1 = some y := by
  obtain ⟨a, b, ⟨⟩⟩ := x
  obtain ⟨⟨h1, h2⟩, rfl⟩ := wh_some h
  simp only at h1 h2
  simp only [ref01_sum, qoh]
  rw [wh_pos ⟨h1, h2, by simp⟩]
  rfl
theorem spec_ref01_sum : FnSpec Tryz.prog gl 161 ⟨[(false, (.slice (.int .i64))), (false, (.slice (.int .i64)))], [(false, (.slice (.int .i64)))], qn9⟩ := qe fun x y h => ⟨qyn, 50, rfl, q38, (q4n x.1 x.2.1).trans (q4o x y h)⟩
theorem sum_dg {m n : Nat} (hm : (dg 10000 m).length ≤ 100000) (hn : (dg 10000 n).length ≤ 100000) : qn9 (dg 10000 m, dg 10000 n, ()) = some (dg 10000 (m + n), ()) := by
  simp only [qn9, val_dg4]
  exact wh_pos ⟨small_dg hm, small_dg hn⟩
def topd (a b : List Int) : Nat → Int
  | 0 => 0
  | k + 1 => if a.getD k 0 = b.getD k 0 then topd a b k else a.getD k 0 - b.getD k 0
theorem val_take_succ (b : Nat) (a : List Int) (k : Nat) (h : k < a.length) : val b (a.take (k + 1)) = val b (a.take k) + b ^ k * (a.getD k 0).toNat := by
  rw [take_succ' a h, val_append, List.length_take, Nat.min_eq_left (by omega)]
  simp
theorem topd_sign {b : Nat} (hb : 2 ≤ b) {x y : List Int} (hx : okD b x) (hy : okD b y) (hl : x.length = y.length) : ∀ k, k ≤ x.length →
    (topd x y k = 0 ∧ val b (x.take k) = val b (y.take k)) ∨ (0 < topd x y k ∧ val b (y.take k) < val b (x.take k)) ∨ (topd x y k < 0 ∧ val b (x.take k) < val b (y.take k))
  | 0, _ => by simp [topd]
  | k + 1, h => by
    have ih := topd_sign hb hx hy hl k (by omega)
    have gx := okD_get hx (by omega) k
    have gy := okD_get hy (by omega) k
    rw [val_take_succ b x k (by omega), val_take_succ b y k (by omega)]
    simp only [topd]
    split
    · rename_i he
      rw [he]
      rcases ih with ⟨h1, h2⟩ | ⟨h1, h2⟩ | ⟨h1, h2⟩
      · exact .inl ⟨h1, by omega⟩
      · exact .inr (.inl ⟨h1, by omega⟩)
      · exact .inr (.inr ⟨h1, by omega⟩)
    · rename_i he
      have vx := val_lt hb (okD_take hx k)
      have vy := val_lt hb (okD_take hy k)
      rw [List.length_take, Nat.min_eq_left (by omega)] at vx vy
      rcases Int.lt_or_gt_of_ne he with h1 | h1
      · refine .inr (.inr ⟨by omega, ?_⟩)
        have : b ^ k * ((x.getD k 0).toNat + 1) ≤ b ^ k * (y.getD k 0).toNat := Nat.mul_le_mul_left _ (by omega)
        rw [Nat.mul_add, Nat.mul_one] at this
        omega
      · refine .inr (.inl ⟨by omega, ?_⟩)
        have : b ^ k * ((y.getD k 0).toNat + 1) ≤ b ^ k * (x.getD k 0).toNat := Nat.mul_le_mul_left _ (by omega)
        rw [Nat.mul_add, Nat.mul_one] at this
        omega
noncomputable def qfs : Shape := ⟨[.dat (.slice (.int .i64)), .dat (.slice (.int .i64)), .j, .j, .j, .dat (.int .i64), .j, .j, .j, .j, .j, .j, .j, .j, .j, .j, .j, .j, .j, .j, .j, .j, .j, .j, .j, .j, .j, .j, .j, .j, .j, .j, .j, .j, .j, .j, .j, .j, .j, .j, .j], [[]], [], []⟩
noncomputable def qjs : List (Ex × Shape) := [(.ret, ⟨[.j, .j, .j, .j, .dat (.int .i64), .j, .j, .j, .j, .j, .j, .j, .j, .j, .j, .j, .j, .j, .j, .j, .j, .j, .j, .j, .j, .j, .j, .j, .j, .j, .j, .j, .j, .j, .j, .j, .j, .j, .j, .j, .j], [[]], [], []⟩), (.exit 0, ⟨[.j, .j, .j, .j, .j, .j, .j, .j, .j, .j, .j, .j, .j, .j, .j, .j, .j, .j, .j, .j, .j, .j, .j, .j, .j, .j, .j, .j, .j, .j, .j, .j, .j, .j, .j, .j, .j, .j, .j, .j, .j], [[]], [], []⟩)]
abbrev qku : Type := (List Int) × (List Int) × Int × Unit
abbrev qkv : Type := ((Int × Unit) ⊕ (Unit))
noncomputable def qhc : Env := (Env.mk' tyF fnF gl (lookT []) (lookL []) (fun f c => match Nat.beq f 138 && Nat.beq c 0 with | true => some qfs | false => none))
theorem qzv : EnvAll Tryz.prog qhc := EnvAll.mk' tabs _ (qb trivial) (qa trivial)
noncomputable def qjr : List Lp := []
noncomputable def qft (rec : qku → Option qkv) (a : (List Int)) (b : (List Int)) (i : Int) : Option qkv :=
  cond' ((decide (i ≥ (0 : Int)))) (
    cond' (decide (0 ≤ i ∧ i < ((a.length : Nat) : Int))) (
    cond' (decide (0 ≤ i ∧ i < ((b.length : Nat) : Int))) (
    cond' (((a.getD i.toNat (0 : Int)) != (b.getD i.toNat (0 : Int)))) (
      cond' (decide (0 ≤ i ∧ i < ((a.length : Nat) : Int))) (
      cond' (decide (0 ≤ i ∧ i < ((b.length : Nat) : Int))) (
      some (.inl ((IntKind.i64.wrap ((a.getD i.toNat (0 : Int)) - (b.getD i.toNat (0 : Int)))), ()))) none) none) (
      rec (a, b, (IntKind.i64.wrap (i - (1 : Int))), ()))) none) none) (
    some (.inr ()))
noncomputable def qir : Nat → qku → Option qkv
  | 0, _ => none
  | n + 1, x => qft (qir n) x.1 x.2.1 x.2.2.1
theorem qp8 (fu : Nat) (a : (List Int)) (b : (List Int)) (i : Int) : qir (fu + 1) (a, b, i, ()) = qft (qir fu) a b i := rfl
theorem qye (fu : Nat) (a : (List Int)) (b : (List Int)) (i : Int) : ev qhc (fu + 1) 138 0 (.loop (loopAt Tryz.f138 0)) (qfs.enc qjr (a, b, i, ())) (exitD qjs) = qft (fun x => ev qhc fu 138 0 (.loop (loopAt Tryz.f138 0)) (qfs.enc qjr x) (exitD qjs)) a b i := by kernel_rfl
theorem q0x (n : Nat) (x : qku) : ev qhc n 138 0 (.loop (loopAt Tryz.f138 0)) (qfs.enc qjr x) (exitD qjs) = qir n x :=
  fuel_eq (f := fun n x => ev qhc n 138 0 (.loop (loopAt Tryz.f138 0)) (qfs.enc qjr x) (exitD qjs)) (st := fun rec x => qft rec x.1 x.2.1 x.2.2.1) (fun _ => rfl) (fun n x => qye n x.1 x.2.1 x.2.2.1) qir (fun _ => rfl) (fun _ _ => rfl) n x
def qm2 (x : qku) : Option qkv := wh (okB 10000 x.1 = true ∧ okB 10000 x.2.1 = true ∧ x.1.length = x.2.1.length ∧ x.1.length ≤ 1000000 ∧ x.2.2.1 = x.1.length - 1) (if topd x.1 x.2.1 x.1.length = 0 then .inr () else .inl (topd x.1 x.2.1 x.1.length, ()))
theorem qq1 (a b : List Int) (ha : okD 10000 a) (hb : okD 10000 b) (hl : a.length = b.length) (hm : a.length ≤ 1000000) : ∀ (k : Nat), k ≤ a.length →
    qir (k + 1) (a, b, (k : Int) - 1, ()) = some (if topd a b k = 0 then .inr () else .inl (topd a b k, ()))
  | 0, _ => by
    rw [qp8]
    simp (disch := omega) only [qft, cond'_neg, topd, if_true]
  | k + 1, h => by
    have ih := qq1 a b ha hb hl hm k (by omega)
    have gx := okD_get ha (by omega) k
    have gy := okD_get hb (by omega) k
    rw [qp8, show (((k + 1 : Nat) : Int)) - 1 = k by omega]
    simp (disch := omega) only [qft, cond'_pos, w64, Int.toNat_natCast]
    by_cases he : a.getD k 0 = b.getD k 0
    · rw [cond'_bne_eq he, show topd a b (k + 1) = topd a b k from if_pos he]
      exact ih
    · rw [cond'_bne_ne he, show topd a b (k + 1) = a.getD k 0 - b.getD k 0 from if_neg he, if_neg (by omega)]
theorem q0y (x : qku) (y : qkv) (h : qm2 x = some y) : ∃ n, qir n x = some y := by
  obtain ⟨a, b, i, ⟨⟩⟩ := x
  obtain ⟨⟨h1, h2, h3, h4, h5⟩, rfl⟩ := wh_some h
  simp only at h1 h2 h3 h4 h5
  subst h5
  exact ⟨_, qq1 a b (okB_iff.1 h1) (okB_iff.1 h2) h3 h4 a.length (Nat.le_refl _)⟩
noncomputable def qtq : LoopC := ⟨qfs, qjs, qm2⟩
theorem qyr : LoopSpec Tryz.prog gl 138 0 qtq := qd (canon := qjr) .nil (fun c hc x y h => by
  obtain rfl := loopAt_eq (fn := Tryz.f138) Tryz.func138 (by kernel_rfl) hc
  obtain ⟨n, hn⟩ := q0y x y h
  exact ⟨qhc, n, rfl, qzv, (q0x n x).trans hn⟩)
noncomputable def qs7 : Env := (Env.mk' tyF fnF gl (lookT []) (lookL [(138, 0, [qtq])]) (fun _ _ => none))
theorem q2t : EnvAll Tryz.prog qs7 := EnvAll.mk' tabs _ (qb trivial) (qa ⟨⟨qyr, trivial⟩, trivial⟩)
noncomputable def ref01_order (a : (List Int)) (b : (List Int)) : Option (Int × Unit) :=
  cond' ((((a.length : Nat) : Int) != ((b.length : Nat) : Int))) (
    some ((IntKind.i64.wrap (((a.length : Nat) : Int) - ((b.length : Nat) : Int))), ())) (
    (qm2 (a, b, (IntKind.i64.wrap (((a.length : Nat) : Int) - (1 : Int))), ())).bind fun y1 =>
    match y1 with
    | .inl a2 =>
      some (a2.1, ())
    | .inr b3 =>
      some ((0 : Int), ()))
theorem q3i (a : (List Int)) (b : (List Int)) : evFn qs7 50 138 [(false, (.slice (.int .i64))), (false, (.slice (.int .i64)))] [(false, (.int .i64))] (a, b, ()) = ref01_order a b := by kernel_rfl
def ordv (a b : List Int) : Int := if a.length = b.length then topd a b a.length else (a.length : Int) - b.length
def qkd (x : List Int × List Int × Unit) : Option (Int × Unit) := wh (okB 10000 x.1 = true ∧ okB 10000 x.2.1 = true ∧ x.1.length ≤ 1000000 ∧ x.2.1.length ≤ 1000000) (ordv x.1 x.2.1, ())
theorem q3j (x : List Int × List Int × Unit) (y : Int × Unit) (h : qkd x = some y) : ref01_order x.1 x.2.1 = some y := by
  obtain ⟨a, b, ⟨⟩⟩ := x
  obtain ⟨⟨h1, h2, h3, h4⟩, rfl⟩ := wh_some h
  simp only at h1 h2 h3 h4
  simp only [ref01_order, qm2, ordv]
  by_cases hl : a.length = b.length
  · rw [cond'_bne_eq (by omega), w64 (by omega) (by omega), wh_pos ⟨h1, h2, hl, h3, rfl⟩, if_pos hl]
    simp only [Option.bind_some]
    by_cases h0 : topd a b a.length = 0
    · rw [if_pos h0, h0]
    · rw [if_neg h0]
  · rw [cond'_bne_ne (by omega), w64 (by omega) (by omega), if_neg hl]
theorem spec_ref01_order : FnSpec Tryz.prog gl 138 ⟨[(false, (.slice (.int .i64))), (false, (.slice (.int .i64)))], [(false, (.int .i64))], qkd⟩ := qe fun x y h => ⟨qs7, 50, rfl, q2t, (q3i x.1 x.2.1).trans (q3j x y h)⟩
theorem ordv_dg (m n : Nat) : (ordv (dg 10000 m) (dg 10000 n) = 0 ∧ m = n) ∨ (0 < ordv (dg 10000 m) (dg 10000 n) ∧ n < m) ∨ (ordv (dg 10000 m) (dg 10000 n) < 0 ∧ m < n) := by
  unfold ordv
  split
  · rename_i hl
    have := topd_sign (b := 10000) (by omega) (dg_ok (by omega) m) (dg_ok (by omega) n) hl _ (Nat.le_refl _)
    rw [List.take_length, show (dg 10000 n).take (dg 10000 m).length = dg 10000 n by rw [hl, List.take_length], val_dg4, val_dg4] at this
    exact this
  · rename_i hl
    have key : ∀ {p q : Nat}, (dg 10000 p).length < (dg 10000 q).length → p < q := by
      intro p q h
      rcases Nat.lt_or_ge p q with h' | h'
      · exact h'
      · have h1 := lt_dg_len (b := 10000) (by omega) p
        have := dg_len_le (b := 10000) (by omega) (dg 10000 p).length q (by omega)
        omega
    rcases Nat.lt_or_gt_of_ne hl with h | h
    · exact .inr (.inr ⟨by omega, key h⟩)
    · exact .inr (.inl ⟨by omega, key h⟩)
theorem order_dg {m n : Nat} (hm : (dg 10000 m).length ≤ 1000000) (hn : (dg 10000 n).length ≤ 1000000) : qkd (dg 10000 m, dg 10000 n, ()) = some (ordv (dg 10000 m) (dg 10000 n), ()) :=
  wh_pos ⟨dg_okB m, dg_okB n, hm, hn⟩
def pd (b : Nat) : Nat → Nat → List Int
  | 0, _ => []
  | k + 1, n => ((n % b : Nat) : Int) :: pd b k (n / b)
theorem pd_len (b : Nat) : ∀ k n, (pd b k n).length = k
  | 0, _ => rfl
  | k + 1, n => by simp [pd, pd_len b k]
theorem pd_ok {b : Nat} (hb : 0 < b) : ∀ k n, okD b (pd b k n)
  | 0, _ => okD_nil
  | k + 1, n => by
    rw [pd, okD_cons]
    have := Nat.mod_lt n hb
    exact ⟨by omega, pd_ok hb k _⟩
theorem val_pd {b : Nat} (hb : 0 < b) : ∀ k n, n < b ^ k → val b (pd b k n) = n
  | 0, n, h => by simp at h; simp [pd, h]
  | k + 1, n, h => by
    rw [pd, val_cons, val_pd hb k _ (by rw [Nat.div_lt_iff_lt_mul hb]; rwa [Nat.pow_succ] at h)]
    have := Nat.mod_add_div n b
    omega
noncomputable def qau : Shape := ⟨[.dat (.slice (.int .i64)), .dat (.slice (.int .i64)), .j, .j, .j, .own 0 (.int .i64), .dat (.int .i64), .dat (.int .i64), .j, .j, .j, .j, .j, .j, .j, .j, .j, .j, .j, .j, .j, .j, .j, .j, .j, .j, .j, .j, .j, .j, .j, .j, .j, .j, .j, .j, .j, .j, .j, .j, .j], [[]], [.row false (.int .i64)], []⟩
noncomputable def qco : List (Ex × Shape) := [(.exit 0, ⟨[.j, .j, .j, .j, .j, .own 0 (.int .i64), .j, .j, .j, .j, .j, .j, .j, .j, .j, .j, .j, .j, .j, .j, .j, .j, .j, .j, .j, .j, .j, .j, .j, .j, .j, .j, .j, .j, .j, .j, .j, .j, .j, .j, .j], [[]], [.row false (.int .i64)], []⟩)]
abbrev qdq : Type := (List Int) × (List Int) × Int × Int × (List Int) × Unit
abbrev qdr : Type := ((List Int) × Unit)
noncomputable def qa8 : Env := (Env.mk' tyF fnF gl (lookT []) (lookL []) (fun f c => match Nat.beq f 139 && Nat.beq c 0 with | true => some qau | false => none))
theorem qs6 : EnvAll Tryz.prog qa8 := EnvAll.mk' tabs _ (qb trivial) (qa trivial)
noncomputable def qcn : List Lp := []
noncomputable def qj (rec : qdq → Option qdr) (a : (List Int)) (b : (List Int)) (borrow : Int) (i : Int) (out : (List Int)) : Option qdr :=
  cond' ((decide (i < ((a.length : Nat) : Int)))) (
    cond' (decide (0 ≤ i ∧ i < ((a.length : Nat) : Int))) (
    cond' ((decide (i < ((b.length : Nat) : Int)))) (
      cond' (decide (0 ≤ i ∧ i < ((b.length : Nat) : Int))) (
      cond' ((decide ((IntKind.i64.wrap ((IntKind.i64.wrap ((a.getD i.toNat (0 : Int)) - borrow)) - (b.getD i.toNat (0 : Int)))) < (0 : Int)))) (
        cond' (decide ((out.length + [(IntKind.i64.wrap ((IntKind.i64.wrap ((IntKind.i64.wrap ((a.getD i.toNat (0 : Int)) - borrow)) - (b.getD i.toNat (0 : Int)))) + (10000 : Int)))].length) * 8 ≤ 140737488355328)) (
        rec (a, b, (1 : Int), (IntKind.i64.wrap (i + (1 : Int))), (out ++ [(IntKind.i64.wrap ((IntKind.i64.wrap ((IntKind.i64.wrap ((a.getD i.toNat (0 : Int)) - borrow)) - (b.getD i.toNat (0 : Int)))) + (10000 : Int)))]), ())) none) (
        cond' (decide ((out.length + [(IntKind.i64.wrap ((IntKind.i64.wrap ((a.getD i.toNat (0 : Int)) - borrow)) - (b.getD i.toNat (0 : Int))))].length) * 8 ≤ 140737488355328)) (
        rec (a, b, (0 : Int), (IntKind.i64.wrap (i + (1 : Int))), (out ++ [(IntKind.i64.wrap ((IntKind.i64.wrap ((a.getD i.toNat (0 : Int)) - borrow)) - (b.getD i.toNat (0 : Int))))]), ())) none)) none) (
      cond' ((decide ((IntKind.i64.wrap ((a.getD i.toNat (0 : Int)) - borrow)) < (0 : Int)))) (
        cond' (decide ((out.length + [(IntKind.i64.wrap ((IntKind.i64.wrap ((a.getD i.toNat (0 : Int)) - borrow)) + (10000 : Int)))].length) * 8 ≤ 140737488355328)) (
        rec (a, b, (1 : Int), (IntKind.i64.wrap (i + (1 : Int))), (out ++ [(IntKind.i64.wrap ((IntKind.i64.wrap ((a.getD i.toNat (0 : Int)) - borrow)) + (10000 : Int)))]), ())) none) (
        cond' (decide ((out.length + [(IntKind.i64.wrap ((a.getD i.toNat (0 : Int)) - borrow))].length) * 8 ≤ 140737488355328)) (
        rec (a, b, (0 : Int), (IntKind.i64.wrap (i + (1 : Int))), (out ++ [(IntKind.i64.wrap ((a.getD i.toNat (0 : Int)) - borrow))]), ())) none))) none) (
    some (out, ()))
noncomputable def qu : Nat → qdq → Option qdr
  | 0, _ => none
  | n + 1, x => qj (qu n) x.1 x.2.1 x.2.2.1 x.2.2.2.1 x.2.2.2.2.1
theorem qm9 (fu : Nat) (a : (List Int)) (b : (List Int)) (borrow : Int) (i : Int) (out : (List Int)) : qu (fu + 1) (a, b, borrow, i, out, ()) = qj (qu fu) a b borrow i out := rfl
theorem qse (fu : Nat) (a : (List Int)) (b : (List Int)) (borrow : Int) (i : Int) (out : (List Int)) : ev qa8 (fu + 1) 139 0 (.loop (loopAt Tryz.f139 0)) (qau.enc qcn (a, b, borrow, i, out, ())) (exitD qco) = qj (fun x => ev qa8 fu 139 0 (.loop (loopAt Tryz.f139 0)) (qau.enc qcn x) (exitD qco)) a b borrow i out := by kernel_rfl
theorem qt1 (n : Nat) (x : qdq) : ev qa8 n 139 0 (.loop (loopAt Tryz.f139 0)) (qau.enc qcn x) (exitD qco) = qu n x :=
  fuel_eq (f := fun n x => ev qa8 n 139 0 (.loop (loopAt Tryz.f139 0)) (qau.enc qcn x) (exitD qco)) (st := fun rec x => qj rec x.1 x.2.1 x.2.2.1 x.2.2.2.1 x.2.2.2.2.1) (fun _ => rfl) (fun n x => qse n x.1 x.2.1 x.2.2.1 x.2.2.2.1 x.2.2.2.2.1) qu (fun _ => rfl) (fun _ _ => rfl) n x
def qig (x : qdq) : Option qdr := wh (okB 10000 x.1 = true ∧ okB 10000 x.2.1 = true ∧ val 10000 x.2.1 ≤ val 10000 x.1 ∧ x.1.length ≤ 1000000 ∧ x.2.1.length ≤ 1000000 ∧ x.2.2.1 = 0 ∧ x.2.2.2.1 = 0 ∧ x.2.2.2.2.1 = []) (pd 10000 x.1.length (val 10000 x.1 - val 10000 x.2.1), ())
theorem qnp (a b : List Int) (ha : okD 10000 a) (hb : okD 10000 b) (hm : a.length ≤ 1000000) (hn : b.length ≤ 1000000) : ∀ (k : Nat) (c : Int) (i : Nat) (out : List Int) (N : Nat), 0 ≤ c → c ≤ 1 → i + k = a.length → out.length ≤ i →
    (val 10000 (a.drop i) : Int) - val 10000 (b.drop i) - c = N → qu (k + 1) (a, b, c, i, out, ()) = some (out ++ pd 10000 k N, ())
  | 0, c, i, out, N, hc0, hc1, hi, ho, hN => by
    rw [qm9]
    simp (disch := omega) only [qj, cond'_neg, pd, List.append_nil]
  | k + 1, c, i, out, N, hc0, hc1, hi, ho, hN => by
    rw [qm9]
    have gm := okD_get ha (by omega) i
    have gn := okD_get hb (by omega) i
    have vm := val_drop 10000 a i
    have vn := val_drop 10000 b i
    have ih := fun c' d => qnp a b ha hb hm hn k c' (i + 1) (out ++ [d]) (N / 10000)
    rw [show (((i + 1 : Nat) : Int)) = (i : Int) + 1 by omega] at ih
    have step : ∀ (y : Int), y = b.getD i 0 → (a.getD i 0 - c - y < 0 → qu (k + 1) (a, b, 1, (i : Int) + 1, out ++ [a.getD i 0 - c - y + 10000], ()) = some (out ++ pd 10000 (k + 1) N, ())) ∧
        (¬ a.getD i 0 - c - y < 0 → qu (k + 1) (a, b, 0, (i : Int) + 1, out ++ [a.getD i 0 - c - y], ()) = some (out ++ pd 10000 (k + 1) N, ())) := by
      intro y hy
      constructor
      · intro hlt
        rw [ih 1 _ (by omega) (by omega) (by omega) (by simp; omega) (by omega), List.append_assoc]
        have e2 : a.getD i 0 - c - y + 10000 = ((N % 10000 : Nat) : Int) := by omega
        rw [e2]; rfl
      · intro hlt
        rw [ih 0 _ (by omega) (by omega) (by omega) (by simp; omega) (by omega), List.append_assoc]
        have e2 : a.getD i 0 - c - y = ((N % 10000 : Nat) : Int) := by omega
        rw [e2]; rfl
    by_cases hbi : i < b.length
    · have st := step _ rfl
      by_cases hlt : a.getD i 0 - c - b.getD i 0 < 0
      · simp (disch := first | omega | (simp only [List.length_cons, List.length_nil]; omega)) only [qj, cond'_pos, cond'_neg, w64, Int.toNat_natCast]
        exact st.1 hlt
      · simp (disch := first | omega | (simp only [List.length_cons, List.length_nil]; omega)) only [qj, cond'_pos, cond'_neg, w64, Int.toNat_natCast]
        exact st.2 hlt
    · have st := step 0 (getD_none (by omega)).symm
      rw [Int.sub_zero] at st
      by_cases hlt : a.getD i 0 - c < 0
      · simp (disch := first | omega | (simp only [List.length_cons, List.length_nil]; omega)) only [qj, cond'_pos, cond'_neg, w64, Int.toNat_natCast]
        exact st.1 hlt
      · simp (disch := first | omega | (simp only [List.length_cons, List.length_nil]; omega)) only [qj, cond'_pos, cond'_neg, w64, Int.toNat_natCast]
        exact st.2 hlt
theorem qt2 (x : qdq) (y : qdr) (h : qig x = some y) : ∃ n, qu n x = some y := by
  obtain ⟨a, b, c, i, out, ⟨⟩⟩ := x
  obtain ⟨⟨h1, h2, h3, h4, h5, h6, h7, h8⟩, rfl⟩ := wh_some h
  simp only at h1 h2 h3 h4 h5 h6 h7 h8
  subst h6; subst h7; subst h8
  have h := qnp a b (okB_iff.1 h1) (okB_iff.1 h2) h4 h5 a.length 0 0 [] (val 10000 a - val 10000 b) (by omega) (by omega) (by omega) (by simp) (by simp; omega)
  exact ⟨_, by simpa using h⟩
noncomputable def qoq : LoopC := ⟨qau, qco, qig⟩
theorem qsh : LoopSpec Tryz.prog gl 139 0 qoq := qd (canon := qcn) .nil (fun c hc x y h => by
  obtain rfl := loopAt_eq (fn := Tryz.f139) Tryz.func139 (by kernel_rfl) hc
  obtain ⟨n, hn⟩ := qt2 x y h
  exact ⟨qa8, n, rfl, qs6, (qt1 n x).trans hn⟩)
noncomputable def qno : Env := (Env.mk' tyF fnF gl (lookT [(136, ⟨[(false, (.slice (.int .i64)))], [(false, (.slice (.int .i64)))], qg⟩)]) (lookL [(139, 0, [qoq])]) (fun _ _ => none))
theorem qwq : EnvAll Tryz.prog qno := EnvAll.mk' tabs _ (qb ⟨spec_ref01_cut, trivial⟩) (qa ⟨⟨qsh, trivial⟩, trivial⟩)
noncomputable def ref01_difference (a : (List Int)) (b : (List Int)) : Option ((List Int) × Unit) :=
  (qig (a, b, (0 : Int), (0 : Int), ([] : List Int), ())).bind fun y1 =>
  (qg (y1.1, ())).bind fun y2 =>
  some (y2.1, ())
theorem qyc (a : (List Int)) (b : (List Int)) : evFn qno 50 139 [(false, (.slice (.int .i64))), (false, (.slice (.int .i64)))] [(false, (.slice (.int .i64)))] (a, b, ()) = ref01_difference a b := by kernel_rfl
def qp (x : List Int × List Int × Unit) : Option (List Int × Unit) := wh (okB 10000 x.1 = true ∧ okB 10000 x.2.1 = true ∧ val 10000 x.2.1 ≤ val 10000 x.1 ∧ x.1.length ≤ 1000000 ∧ x.2.1.length ≤ 1000000) (dg 10000 (val 10000 x.1 - val 10000 x.2.1), ())
theorem qyd (x : List Int × List Int × Unit) (y : List Int × Unit) (h : qp x = some y) : ref01_difference x.1 x.2.1 = some y := by
  obtain ⟨a, b, ⟨⟩⟩ := x
  obtain ⟨⟨h1, h2, h3, h4, h5⟩, rfl⟩ := wh_some h
  simp only at h1 h2 h3 h4 h5
  have hv := val_lt (b := 10000) (by omega) (okB_iff.1 h1)
  simp only [ref01_difference, qig, qg]
  rw [wh_pos ⟨h1, h2, h3, h4, h5, by simp⟩]
  simp only [Option.bind_some]
  rw [wh_pos ⟨okB_iff.2 (pd_ok (by omega) _ _), by rw [pd_len]; exact h4⟩, val_pd (by omega) _ _ (by omega)]
  rfl
theorem spec_ref01_difference : FnSpec Tryz.prog gl 139 ⟨[(false, (.slice (.int .i64))), (false, (.slice (.int .i64)))], [(false, (.slice (.int .i64)))], qp⟩ := qe fun x y h => ⟨qno, 50, rfl, qwq, (qyc x.1 x.2.1).trans (qyd x y h)⟩
theorem difference_dg {m n : Nat} (h : n ≤ m) (hm : (dg 10000 m).length ≤ 1000000) (hn : (dg 10000 n).length ≤ 1000000) : qp (dg 10000 m, dg 10000 n, ()) = some (dg 10000 (m - n), ()) := by
  simp only [qp, val_dg4]
  exact wh_pos ⟨dg_okB m, dg_okB n, h, hm, hn⟩
end
end Go.AV
end
section
set_option linter.unusedVariables false
set_option linter.unusedSimpArgs false
set_option maxRecDepth 100000
namespace Go.AV
open Go Go.Proofs
noncomputable section
theorem pd_get {b : Nat} (hb : 0 < b) : ∀ (L V k : Nat), k < L → (pd b L V).getD k 0 = ((V / b ^ k % b : Nat) : Int)
  | 0, V, k, h => by omega
  | L + 1, V, 0, h => by simp [pd]
  | L + 1, V, k + 1, h => by
    rw [pd, List.getD_cons_succ, pd_get hb L (V / b) k (by omega), Nat.div_div_eq_div_mul, Nat.pow_succ, Nat.mul_comm]
theorem pd_set {b : Nat} (hb : 0 < b) : ∀ (L V V' k d : Nat), k < L → d < b → V + d * b ^ k = V' + (V / b ^ k % b) * b ^ k → (pd b L V).set k (d : Int) = pd b L V'
  | 0, V, V', k, d, h, _, _ => by omega
  | L + 1, V, V', 0, d, h, hd, he => by
    simp only [Nat.pow_zero, Nat.mul_one, Nat.div_one] at he
    have h1 := Nat.mod_add_div V b
    have e : V' = d + b * (V / b) := by omega
    rw [pd, List.set_cons_zero, pd, e, Nat.add_mul_mod_self_left, Nat.mod_eq_of_lt hd, Nat.add_mul_div_left _ _ hb, Nat.div_eq_of_lt hd, Nat.zero_add]
  | L + 1, V, V', k + 1, d, h, hd, he => by
    have h1 := Nat.mod_add_div V b
    have h2 := Nat.mod_add_div V' b
    rw [Nat.pow_succ, ← Nat.mul_assoc, ← Nat.mul_assoc] at he
    have hm : V % b = V' % b := by
      have := congrArg (· % b) he
      simpa [Nat.add_mul_mod_self_right] using this
    rw [pd, List.set_cons_succ, pd, hm]
    congr 1
    refine pd_set hb L (V / b) (V' / b) k d (by omega) hd ?_
    have e : V / b / b ^ k = V / (b ^ k * b) := by rw [Nat.div_div_eq_div_mul, Nat.mul_comm]
    rw [e]
    have h3 : b * (V / b + d * b ^ k) = b * (V' / b + V / (b ^ k * b) % b * b ^ k) := by
      rw [Nat.mul_add, Nat.mul_add, Nat.mul_comm b (d * b ^ k), Nat.mul_comm b (V / (b ^ k * b) % b * b ^ k)]
      omega
    exact Nat.eq_of_mul_eq_mul_left hb h3
theorem digit_le {b : Nat} (V k : Nat) : V / b ^ k % b * b ^ k ≤ V := by
  have h1 : V / b ^ k % b ≤ V / b ^ k := Nat.mod_le _ _
  have h2 := Nat.mul_le_mul_right (b ^ k) h1
  have h3 := Nat.div_mul_le_self V (b ^ k)
  omega
theorem set_lt {b : Nat} (hb : 2 ≤ b) {V V' k m d : Nat} (hk : k < m) (hd : d < b) (hV : V < b ^ m) (he : V + d * b ^ k = V' + (V / b ^ k % b) * b ^ k) : V' < b ^ m := by
  have key : (pd b m V).set k (d : Int) = pd b m V' := pd_set (by omega) m V V' k d hk hd he
  have hx := val_lt hb (pd_ok (b := b) (by omega) m V')
  have hs : okD b ((pd b m V).set k (d : Int)) := by
    intro x hx
    rcases List.mem_or_eq_of_mem_set hx with h | rfl
    · exact pd_ok (by omega) m V x h
    · omega
  have e1 : V = b ^ (k + 1) * (V / b ^ (k + 1)) + V % b ^ (k + 1) := by have := Nat.mod_add_div V (b ^ (k + 1)); omega
  have e2 : V / b ^ (k + 1) < b ^ (m - (k + 1)) := by
    rw [Nat.div_lt_iff_lt_mul (Nat.pow_pos (by omega)), ← Nat.pow_add]
    rwa [show m - (k + 1) + (k + 1) = m by omega]
  have e3 : V % b ^ (k + 1) = V % b ^ k + b ^ k * (V / b ^ k % b) := by rw [Nat.pow_succ, Nat.mod_mul]
  have e4 : V % b ^ k < b ^ k := Nat.mod_lt _ (Nat.pow_pos (by omega))
  have e5 : V' = b ^ (k + 1) * (V / b ^ (k + 1)) + (V % b ^ k + d * b ^ k) := by
    rw [Nat.mul_comm (b ^ k)] at e3
    omega
  have e6 : V % b ^ k + d * b ^ k < b ^ (k + 1) := by
    have : (d + 1) * b ^ k ≤ b * b ^ k := Nat.mul_le_mul_right _ (by omega)
    rw [Nat.pow_succ, Nat.mul_comm (b ^ k) b]
    rw [Nat.add_mul, Nat.one_mul] at this
    omega
  have e7 : b ^ (k + 1) * (V / b ^ (k + 1) + 1) ≤ b ^ (k + 1) * b ^ (m - (k + 1)) := Nat.mul_le_mul_left _ e2
  rw [← Nat.pow_add, show k + 1 + (m - (k + 1)) = m by omega, Nat.mul_add, Nat.mul_one] at e7
  omega
theorem row_arith {V V' d v P W a b c c' B t : Nat} (h1 : t = c + v + a * b) (h2 : t = d + B * c') (h3 : V + d * P = V' + v * P) : V' + (a * W + c') * (P * B) = V + (a * (b + B * W) + c) * P := by
  have h4 : (d + B * c') * P = (c + v + a * b) * P := by rw [← h1, ← h2]
  simp only [Nat.add_mul, Nat.mul_add] at h4 ⊢
  have e1 : a * W * (P * B) = a * (B * W) * P := by simp only [Nat.mul_comm, Nat.mul_left_comm]
  have e2 : c' * (P * B) = B * c' * P := by simp only [Nat.mul_comm, Nat.mul_left_comm]
  omega
def okQ (b : List Int) : Prop := okB 10000 b = true ∨ (b.length = 1 ∧ okB 10001 b = true)
instance (b : List Int) : Decidable (okQ b) := inferInstanceAs (Decidable (_ ∨ _))
theorem okQ_get {b : List Int} (h : okQ b) (j : Nat) : 0 ≤ b.getD j 0 ∧ b.getD j 0 ≤ 10000 := by
  rcases h with h | ⟨_, h⟩
  · have := okD_get (okB_iff.1 h) (by omega) j
    omega
  · have := okD_get (okB_iff.1 h) (by omega) j
    omega
theorem okQ_val {b : List Int} (h : okQ b) : val 10000 b ≤ 10000 ^ b.length := by
  rcases h with h | ⟨h1, h⟩
  · exact Nat.le_of_lt (val_lt (by omega) (okB_iff.1 h))
  · match b, h1 with
    | [x], _ =>
      have := (okB_iff.1 h) x (by simp)
      simp only [val_cons, val_nil, List.length_singleton]
      omega
theorem mul_lt_of {a b A B : Nat} (h1 : a < A) (h2 : b ≤ B) (h3 : 0 < B) : a * b < A * B :=
  Nat.lt_of_le_of_lt (Nat.mul_le_mul_left a h2) (Nat.mul_lt_mul_of_pos_right h1 h3)
noncomputable def qda : Shape := ⟨[.dat (.slice (.int .i64)), .dat (.slice (.int .i64)), .j, .j, .j, .own 0 (.int .i64), .dat (.int .i64), .dat (.int .i64), .dat (.int .i64), .j, .j, .j, .j, .j, .j, .j, .j, .j, .j, .j, .j, .j, .j, .j, .j, .j, .j, .j, .j, .j, .j, .j, .j, .j, .j, .j, .j, .j, .j, .j, .j, .j, .j, .j, .j, .j, .j, .j, .j, .j, .j, .j, .j, .j, .j, .j, .j, .j, .j, .j, .j, .j, .j], [[]], [.row false (.int .i64)], []⟩
noncomputable def qgo : List (Ex × Shape) := [(.exit 2, ⟨[.dat (.slice (.int .i64)), .dat (.slice (.int .i64)), .j, .j, .j, .own 0 (.int .i64), .dat (.int .i64), .dat (.int .i64), .j, .j, .j, .j, .j, .j, .j, .j, .j, .j, .j, .j, .j, .j, .j, .j, .j, .j, .j, .j, .j, .j, .j, .j, .j, .j, .j, .j, .j, .j, .j, .j, .j, .j, .j, .j, .j, .j, .j, .j, .j, .j, .j, .j, .j, .j, .j, .j, .j, .j, .j, .j, .j, .j, .j], [[]], [.row false (.int .i64)], []⟩)]
abbrev qij : Type := (List Int) × (List Int) × Int × Int × Int × (List Int) × Unit
abbrev qik : Type := ((List Int) × (List Int) × Int × Int × (List Int) × Unit)
noncomputable def qem : Env := (Env.mk' tyF fnF gl (lookT []) (lookL []) (fun f c => match Nat.beq f 107 && Nat.beq c 2 with | true => some qda | false => none))
theorem qws : EnvAll Tryz.prog qem := EnvAll.mk' tabs _ (qb trivial) (qa trivial)
noncomputable def qgn : List Lp := []
noncomputable def qdb (rec : qij → Option qik) (a : (List Int)) (b : (List Int)) (i : Int) (carry : Int) (j : Int) (out : (List Int)) : Option qik :=
  cond' ((decide (j < ((b.length : Nat) : Int)))) (
    cond' (decide (0 ≤ (IntKind.i64.wrap (i + j)) ∧ (IntKind.i64.wrap (i + j)) < ((out.length : Nat) : Int))) (
    cond' (decide (0 ≤ i ∧ i < ((a.length : Nat) : Int))) (
    cond' (decide (0 ≤ j ∧ j < ((b.length : Nat) : Int))) (
    cond' (decide (0 ≤ (IntKind.i64.wrap (i + j)) ∧ (IntKind.i64.wrap (i + j)) < ((out.length : Nat) : Int))) (
    rec (a, b, i, (IntKind.i64.wrap ((IntKind.i64.wrap ((IntKind.i64.wrap (carry + (out.getD ((IntKind.i64.wrap (i + j)).toNat) (0 : Int)))) + (IntKind.i64.wrap ((a.getD i.toNat (0 : Int)) * (b.getD j.toNat (0 : Int)))))).tdiv (10000 : Int))), (IntKind.i64.wrap (j + (1 : Int))), (out.set ((IntKind.i64.wrap (i + j)).toNat) ((IntKind.i64.wrap ((IntKind.i64.wrap (carry + (out.getD ((IntKind.i64.wrap (i + j)).toNat) (0 : Int)))) + (IntKind.i64.wrap ((a.getD i.toNat (0 : Int)) * (b.getD j.toNat (0 : Int)))))).tmod (10000 : Int))), ())) none) none) none) none) (
    some (a, b, i, carry, out, ()))
noncomputable def qex : Nat → qij → Option qik
  | 0, _ => none
  | n + 1, x => qdb (qex n) x.1 x.2.1 x.2.2.1 x.2.2.2.1 x.2.2.2.2.1 x.2.2.2.2.2.1
theorem qor (fu : Nat) (a : (List Int)) (b : (List Int)) (i : Int) (carry : Int) (j : Int) (out : (List Int)) : qex (fu + 1) (a, b, i, carry, j, out, ()) = qdb (qex fu) a b i carry j out := rfl
theorem qvf (fu : Nat) (a : (List Int)) (b : (List Int)) (i : Int) (carry : Int) (j : Int) (out : (List Int)) : ev qem (fu + 1) 107 2 (.loop (loopAt Tryz.f107 2)) (qda.enc qgn (a, b, i, carry, j, out, ())) (exitD qgo) = qdb (fun x => ev qem fu 107 2 (.loop (loopAt Tryz.f107 2)) (qda.enc qgn x) (exitD qgo)) a b i carry j out := by kernel_rfl
theorem qyj (n : Nat) (x : qij) : ev qem n 107 2 (.loop (loopAt Tryz.f107 2)) (qda.enc qgn x) (exitD qgo) = qex n x :=
  fuel_eq (f := fun n x => ev qem n 107 2 (.loop (loopAt Tryz.f107 2)) (qda.enc qgn x) (exitD qgo)) (st := fun rec x => qdb rec x.1 x.2.1 x.2.2.1 x.2.2.2.1 x.2.2.2.2.1 x.2.2.2.2.2.1) (fun _ => rfl) (fun n x => qvf n x.1 x.2.1 x.2.2.1 x.2.2.2.1 x.2.2.2.2.1 x.2.2.2.2.2.1) qex (fun _ => rfl) (fun _ _ => rfl) n x
def qii (x : qij) : Option qik := wh (okB 10000 x.1 = true ∧ okQ x.2.1 ∧ x.1.length ≤ 200000 ∧ x.2.1.length ≤ 200000 ∧ 0 ≤ x.2.2.1 ∧ x.2.2.1 < x.1.length ∧ x.2.2.2.1 = 0 ∧ x.2.2.2.2.1 = 0 ∧ x.2.2.2.2.2.1 = pd 10000 (x.1.length + x.2.1.length) (val 10000 x.2.2.2.2.2.1) ∧
    val 10000 x.2.2.2.2.2.1 < 10000 ^ (x.2.2.1.toNat + x.2.1.length))
  (x.1, x.2.1, x.2.2.1, (((val 10000 x.2.2.2.2.2.1 + (x.1.getD x.2.2.1.toNat 0).toNat * val 10000 x.2.1 * 10000 ^ x.2.2.1.toNat) / 10000 ^ (x.2.2.1.toNat + x.2.1.length) : Nat) : Int),
    pd 10000 (x.1.length + x.2.1.length) ((val 10000 x.2.2.2.2.2.1 + (x.1.getD x.2.2.1.toNat 0).toNat * val 10000 x.2.1 * 10000 ^ x.2.2.1.toNat) % 10000 ^ (x.2.2.1.toNat + x.2.1.length)), ())
theorem qpi (a b : List Int) (ha : okD 10000 a) (hb : okQ b) (hm : a.length ≤ 200000) (hn : b.length ≤ 200000) (i : Nat) (hi : i < a.length) : ∀ (r j V : Nat) (c : Nat), j + r = b.length → V < 10000 ^ (i + b.length) → (0 < r → c < 10000 ∧ (b.length = 1 → c = 0)) →
    qex (r + 1) (a, b, i, c, j, pd 10000 (a.length + b.length) V, ()) = some (a, b, (i : Int), (((V + ((a.getD i 0).toNat * val 10000 (b.drop j) + c) * 10000 ^ (i + j)) / 10000 ^ (i + b.length) : Nat) : Int),
      pd 10000 (a.length + b.length) ((V + ((a.getD i 0).toNat * val 10000 (b.drop j) + c) * 10000 ^ (i + j)) % 10000 ^ (i + b.length)), ())
  | 0, j, V, c, hj, hV, hc => by
    rw [qor]
    have e : j = b.length := by omega
    subst e
    have hp : 0 < 10000 ^ (i + b.length) := Nat.pow_pos (by omega)
    simp (disch := omega) only [qdb, cond'_neg, List.drop_length, val_nil, Nat.mul_zero, Nat.zero_add, Nat.add_mul_mod_self_right, Nat.add_mul_div_right, hp, Nat.mod_eq_of_lt hV, Nat.div_eq_of_lt hV]
  | r + 1, j, V, c, hj, hV, hc => by
    rw [qor]
    have ga := okD_get ha (by omega) i
    have gb := okQ_get hb j
    have hc := hc (by omega)
    have hL : (pd 10000 (a.length + b.length) V).length = a.length + b.length := pd_len _ _ _
    have go := pd_get (b := 10000) (by omega) (a.length + b.length) V (i + j) (by omega)
    have hv : V / 10000 ^ (i + j) % 10000 < 10000 := Nat.mod_lt _ (by omega)
    obtain ⟨A, hA⟩ : ∃ A : Nat, a.getD i 0 = (A : Int) := ⟨(a.getD i 0).toNat, by omega⟩
    obtain ⟨B, hB⟩ : ∃ B : Nat, b.getD j 0 = (B : Int) := ⟨(b.getD j 0).toNat, by omega⟩
    rw [hA] at ga
    rw [hB] at gb
    have hAB : A * B ≤ 9999 * 10000 := Nat.mul_le_mul (by omega) (by omega)
    have hAB2 : 1 < b.length → A * B ≤ 9999 * 9999 := fun h1 => Nat.mul_le_mul (by omega) (by
      rcases hb with hb | ⟨hb, _⟩
      · have := okD_get (okB_iff.1 hb) (by omega) j
        omega
      · omega)
    generalize ht : c + V / 10000 ^ (i + j) % 10000 + A * B = t
    have et : ((c : Int) + ((V / 10000 ^ (i + j) % 10000 : Nat) : Int)) + (A : Int) * (B : Int) = (t : Int) := by
      rw [← ht]
      push_cast
      omega
    have hAB' : (A : Int) * (B : Int) = ((A * B : Nat) : Int) := by push_cast; rfl
    obtain ⟨V', hV'⟩ : ∃ V', V + t % 10000 * 10000 ^ (i + j) = V' + (V / 10000 ^ (i + j) % 10000) * 10000 ^ (i + j) := ⟨V + t % 10000 * 10000 ^ (i + j) - (V / 10000 ^ (i + j) % 10000) * 10000 ^ (i + j), by
      have := digit_le (b := 10000) V (i + j)
      omega⟩
    have hset := pd_set (b := 10000) (by omega) (a.length + b.length) V V' (i + j) (t % 10000) (by omega) (Nat.mod_lt _ (by omega)) hV'
    have hlt := set_lt (b := 10000) (by omega) (show i + j < i + b.length by omega) (Nat.mod_lt _ (by omega)) hV hV'
    have ih := qpi a b ha hb hm hn i hi r (j + 1) V' (t / 10000) (by omega) hlt (fun hr => by
      have := hAB2 (by omega)
      omega)
    have hd := val_drop 10000 b j
    rw [hB] at hd
    have harith := row_arith (W := val 10000 (b.drop (j + 1))) ht.symm (show t = t % 10000 + 10000 * (t / 10000) by omega) hV'
    rw [hA] at ih ⊢
    simp only [Int.toNat_natCast] at ih hd ⊢
    rw [hd, ← harith]
    rw [show i + (j + 1) = i + j + 1 by omega, Nat.pow_succ] at ih
    simp (disch := omega) only [qdb, cond'_pos, w64, hL]
    rw [show ((i : Int) + (j : Int)).toNat = i + j by omega, go]
    simp only [Int.toNat_natCast, hA, hB, hAB']
    simp (disch := omega) only [w64]
    rw [show (c : Int) + ((V / 10000 ^ (i + j) % 10000 : Nat) : Int) + ((A * B : Nat) : Int) = (t : Int) by rw [← hAB']; exact et]
    simp (disch := omega) only [w64, Int.tdiv_eq_ediv_of_nonneg, Int.tmod_eq_emod_of_nonneg]
    rw [show ((t : Int) % 10000) = ((t % 10000 : Nat) : Int) by omega, hset, show ((t : Int) / 10000) = ((t / 10000 : Nat) : Int) by omega]
    exact ih
theorem qyk (x : qij) (y : qik) (h : qii x = some y) : ∃ n, qex n x = some y := by
  obtain ⟨a, b, i, c, j, out, ⟨⟩⟩ := x
  obtain ⟨⟨h1, h2, h3, h4, h5, h6, h7, h8, h9, h10⟩, rfl⟩ := wh_some h
  simp only at h1 h2 h3 h4 h5 h6 h7 h8 h9 h10
  subst h7; subst h8
  obtain ⟨i', rfl⟩ : ∃ i' : Nat, i = i' := ⟨i.toNat, by omega⟩
  rw [Int.toNat_natCast] at h10
  have := qpi a b (okB_iff.1 h1) h2 h3 h4 i' (by omega) b.length 0 (val 10000 out) 0 (by omega) h10 (fun _ => ⟨by omega, fun _ => rfl⟩)
  rw [← h9] at this
  exact ⟨_, by simpa using this⟩
noncomputable def qq3 : LoopC := ⟨qda, qgo, qii⟩
theorem qvl : LoopSpec Tryz.prog gl 107 2 qq3 := qd (canon := qgn) .nil (fun c hc x y h => by
  obtain rfl := loopAt_eq (fn := Tryz.f107) Tryz.func107 (by kernel_rfl) hc
  obtain ⟨n, hn⟩ := qyk x y h
  exact ⟨qem, n, rfl, qws, (qyj n x).trans hn⟩)
noncomputable def qdc : Shape := ⟨[.dat (.slice (.int .i64)), .dat (.slice (.int .i64)), .j, .j, .j, .own 0 (.int .i64), .dat (.int .i64), .j, .j, .j, .j, .j, .j, .j, .j, .j, .j, .j, .j, .j, .j, .j, .j, .j, .j, .j, .j, .j, .j, .j, .j, .j, .j, .j, .j, .j, .j, .j, .j, .j, .j, .j, .j, .j, .j, .j, .j, .j, .j, .j, .j, .j, .j, .j, .j, .j, .j, .j, .j, .j, .j, .j, .j], [[]], [.row false (.int .i64)], []⟩
noncomputable def qgq : List (Ex × Shape) := [(.exit 0, ⟨[.j, .j, .j, .j, .j, .own 0 (.int .i64), .j, .j, .j, .j, .j, .j, .j, .j, .j, .j, .j, .j, .j, .j, .j, .j, .j, .j, .j, .j, .j, .j, .j, .j, .j, .j, .j, .j, .j, .j, .j, .j, .j, .j, .j, .j, .j, .j, .j, .j, .j, .j, .j, .j, .j, .j, .j, .j, .j, .j, .j, .j, .j, .j, .j, .j, .j], [[]], [.row false (.int .i64)], []⟩)]
abbrev qil : Type := (List Int) × (List Int) × Int × (List Int) × Unit
abbrev qim : Type := ((List Int) × Unit)
noncomputable def qen : Env := (Env.mk' tyF fnF gl (lookT []) (lookL [(107, 2, [qq3])]) (fun f c => match Nat.beq f 107 && Nat.beq c 0 with | true => some qdc | false => none))
theorem qwt : EnvAll Tryz.prog qen := EnvAll.mk' tabs _ (qb trivial) (qa ⟨⟨qvl, trivial⟩, trivial⟩)
noncomputable def qgp : List Lp := []
noncomputable def qdd (rec : qil → Option qim) (a : (List Int)) (b : (List Int)) (i : Int) (out : (List Int)) : Option qim :=
  cond' ((decide (i < ((a.length : Nat) : Int)))) (
    (qii (a, b, i, (0 : Int), (0 : Int), out, ())).bind fun y1 =>
    cond' (decide (0 ≤ (IntKind.i64.wrap (y1.2.2.1 + ((y1.2.1.length : Nat) : Int))) ∧ (IntKind.i64.wrap (y1.2.2.1 + ((y1.2.1.length : Nat) : Int))) < ((y1.2.2.2.2.1.length : Nat) : Int))) (
    rec (y1.1, y1.2.1, (IntKind.i64.wrap (y1.2.2.1 + (1 : Int))), (y1.2.2.2.2.1.set ((IntKind.i64.wrap (y1.2.2.1 + ((y1.2.1.length : Nat) : Int))).toNat) y1.2.2.2.1), ())) none) (
    some (out, ()))
noncomputable def qey : Nat → qil → Option qim
  | 0, _ => none
  | n + 1, x => qdd (qey n) x.1 x.2.1 x.2.2.1 x.2.2.2.1
theorem qos (fu : Nat) (a : (List Int)) (b : (List Int)) (i : Int) (out : (List Int)) : qey (fu + 1) (a, b, i, out, ()) = qdd (qey fu) a b i out := rfl
theorem qvg (fu : Nat) (a : (List Int)) (b : (List Int)) (i : Int) (out : (List Int)) : ev qen (fu + 1) 107 0 (.loop (loopAt Tryz.f107 0)) (qdc.enc qgp (a, b, i, out, ())) (exitD qgq) = qdd (fun x => ev qen fu 107 0 (.loop (loopAt Tryz.f107 0)) (qdc.enc qgp x) (exitD qgq)) a b i out := by kernel_rfl
theorem qyl (n : Nat) (x : qil) : ev qen n 107 0 (.loop (loopAt Tryz.f107 0)) (qdc.enc qgp x) (exitD qgq) = qey n x :=
  fuel_eq (f := fun n x => ev qen n 107 0 (.loop (loopAt Tryz.f107 0)) (qdc.enc qgp x) (exitD qgq)) (st := fun rec x => qdd rec x.1 x.2.1 x.2.2.1 x.2.2.2.1) (fun _ => rfl) (fun n x => qvg n x.1 x.2.1 x.2.2.1 x.2.2.2.1) qey (fun _ => rfl) (fun _ _ => rfl) n x
def qlm (x : qil) : Option qim := wh (okB 10000 x.1 = true ∧ okQ x.2.1 ∧ x.1.length ≤ 200000 ∧ x.2.1.length ≤ 200000 ∧ x.2.2.1 = 0 ∧ x.2.2.2.1 = List.replicate (x.1.length + x.2.1.length) 0) (pd 10000 (x.1.length + x.2.1.length) (val 10000 x.1 * val 10000 x.2.1), ())
theorem qpj (a b : List Int) (ha : okD 10000 a) (hb : okQ b) (hm : a.length ≤ 200000) (hn : b.length ≤ 200000) : ∀ (r i : Nat), i + r = a.length →
    qey (r + 1) (a, b, i, pd 10000 (a.length + b.length) (val 10000 (a.take i) * val 10000 b), ()) = some (pd 10000 (a.length + b.length) (val 10000 a * val 10000 b), ())
  | 0, i, hi => by
    rw [qos]
    have e : i = a.length := by omega
    subst e
    simp (disch := omega) only [qdd, cond'_neg, List.take_length]
  | r + 1, i, hi => by
    rw [qos]
    have hvb := okQ_val hb
    have hva := val_lt (b := 10000) (by omega) (okD_take ha i)
    have hva2 := val_lt (b := 10000) (by omega) (okD_take ha (i + 1))
    rw [List.length_take, Nat.min_eq_left (by omega)] at hva hva2
    have hts := val_take_succ 10000 a i (by omega)
    have ih := qpj a b ha hb hm hn r (i + 1) (by omega)
    generalize hP : val 10000 (a.take i) * val 10000 b = P at ih ⊢
    have hPlt : P < 10000 ^ (i + b.length) := by
      rw [← hP, Nat.pow_add]
      exact mul_lt_of hva hvb (Nat.pow_pos (by omega))
    have hQ : val 10000 (a.take (i + 1)) * val 10000 b = P + (a.getD i 0).toNat * val 10000 b * 10000 ^ i := by
      rw [hts, Nat.add_mul, hP]
      congr 1
      rw [Nat.mul_comm (10000 ^ i), Nat.mul_right_comm]
    rw [hQ] at ih
    generalize hT : P + (a.getD i 0).toNat * val 10000 b * 10000 ^ i = T at ih
    have hTlt : T < 10000 ^ (i + b.length + 1) := by
      rw [← hT, ← hQ, show i + b.length + 1 = i + 1 + b.length by omega, Nat.pow_add]
      exact mul_lt_of hva2 hvb (Nat.pow_pos (by omega))
    have hPL : P < 10000 ^ (a.length + b.length) := Nat.lt_of_lt_of_le hPlt (Nat.pow_le_pow_right (by omega) (by omega))
    have hG : qii (a, b, (i : Int), 0, 0, pd 10000 (a.length + b.length) P, ()) = some (a, b, (i : Int), ((T / 10000 ^ (i + b.length) : Nat) : Int), pd 10000 (a.length + b.length) (T % 10000 ^ (i + b.length)), ()) := by
      simp only [qii, Int.toNat_natCast]
      rw [val_pd (by omega) _ _ hPL, hT]
      exact wh_pos ⟨okB_iff.2 ha, hb, hm, hn, by omega, by omega, trivial, trivial, rfl, hPlt⟩
    have hc : T / 10000 ^ (i + b.length) < 10000 := by
      rw [Nat.div_lt_iff_lt_mul (Nat.pow_pos (by omega)), Nat.mul_comm]
      rwa [Nat.pow_succ] at hTlt
    have hset := pd_set (b := 10000) (by omega) (a.length + b.length) (T % 10000 ^ (i + b.length)) T (i + b.length) (T / 10000 ^ (i + b.length)) (by omega) hc (by
      have h0 : T % 10000 ^ (i + b.length) / 10000 ^ (i + b.length) = 0 := Nat.div_eq_of_lt (Nat.mod_lt _ (Nat.pow_pos (by omega)))
      have := Nat.mod_add_div T (10000 ^ (i + b.length))
      rw [h0, Nat.mul_comm (T / _)]
      simp
      exact this)
    simp (disch := omega) only [qdd, cond'_pos, hG, Option.bind_some, w64, pd_len]
    rw [show ((i : Int) + (b.length : Int)).toNat = i + b.length by omega, hset]
    exact ih
theorem pd_zero (b : Nat) : ∀ L, pd b L 0 = List.replicate L 0
  | 0 => rfl
  | L + 1 => by simp [pd, pd_zero b L, List.replicate_succ]
theorem qym (x : qil) (y : qim) (h : qlm x = some y) : ∃ n, qey n x = some y := by
  obtain ⟨a, b, i, out, ⟨⟩⟩ := x
  obtain ⟨⟨h1, h2, h3, h4, h5, h6⟩, rfl⟩ := wh_some h
  simp only at h1 h2 h3 h4 h5 h6
  subst h5; subst h6
  have := qpj a b (okB_iff.1 h1) h2 h3 h4 a.length 0 (by omega)
  rw [List.take_zero, val_nil, Nat.zero_mul, pd_zero] at this
  exact ⟨_, this⟩
noncomputable def qq4 : LoopC := ⟨qdc, qgq, qlm⟩
theorem qvm : LoopSpec Tryz.prog gl 107 0 qq4 := qd (canon := qgp) .nil (fun c hc x y h => by
  obtain rfl := loopAt_eq (fn := Tryz.f107) Tryz.func107 (by kernel_rfl) hc
  obtain ⟨n, hn⟩ := qym x y h
  exact ⟨qen, n, rfl, qwt, (qyl n x).trans hn⟩)
noncomputable def qqb : Env := (Env.mk' tyF fnF gl (lookT [(136, ⟨[(false, (.slice (.int .i64)))], [(false, (.slice (.int .i64)))], qg⟩)]) (lookL [(107, 0, [qq4])]) (fun _ _ => none))
theorem q05 : EnvAll Tryz.prog qqb := EnvAll.mk' tabs _ (qb ⟨spec_ref01_cut, trivial⟩) (qa ⟨⟨qvm, trivial⟩, trivial⟩)
noncomputable def ref01_product (a : (List Int)) (b : (List Int)) : Option ((List Int) × Unit) :=
  cond' (decide (0 ≤ (IntKind.i64.wrap (((a.length : Nat) : Int) + ((b.length : Nat) : Int))) ∧ (IntKind.i64.wrap (((a.length : Nat) : Int) + ((b.length : Nat) : Int))) ≤ (IntKind.i64.wrap (((a.length : Nat) : Int) + ((b.length : Nat) : Int))) ∧ (IntKind.i64.wrap (((a.length : Nat) : Int) + ((b.length : Nat) : Int))) * ((8 : Nat) : Int) ≤ 140737488355328 ∧ (IntKind.i64.wrap (((a.length : Nat) : Int) + ((b.length : Nat) : Int))) ≤ 140737488355328)) (
  (qlm (a, b, (0 : Int), (List.replicate ((IntKind.i64.wrap (((a.length : Nat) : Int) + ((b.length : Nat) : Int))).toNat) (0 : Int)), ())).bind fun y1 =>
  (qg (y1.1, ())).bind fun y2 =>
  some (y2.1, ())) none
theorem q13 (a : (List Int)) (b : (List Int)) : evFn qqb 50 107 [(false, (.slice (.int .i64))), (false, (.slice (.int .i64)))] [(false, (.slice (.int .i64)))] (a, b, ()) = ref01_product a b := by kernel_rfl
def qds (x : List Int × List Int × Unit) : Option (List Int × Unit) := wh (okB 10000 x.1 = true ∧ okQ x.2.1 ∧ x.1.length ≤ 200000 ∧ x.2.1.length ≤ 200000) (dg 10000 (val 10000 x.1 * val 10000 x.2.1), ())
theorem q14 (x : List Int × List Int × Unit) (y : List Int × Unit) (h : qds x = some y) : ref01_product x.1 x.2.1 = some y := by
  obtain ⟨a, b, ⟨⟩⟩ := x
  obtain ⟨⟨h1, h2, h3, h4⟩, rfl⟩ := wh_some h
  simp only at h1 h2 h3 h4
  have hva := val_lt (b := 10000) (by omega) (okB_iff.1 h1)
  have hvb := okQ_val h2
  have hlt : val 10000 a * val 10000 b < 10000 ^ (a.length + b.length) := by rw [Nat.pow_add]; exact mul_lt_of hva hvb (Nat.pow_pos (by omega))
  simp (disch := omega) only [ref01_product, cond'_pos, w64]
  rw [show ((a.length : Int) + (b.length : Int)).toNat = a.length + b.length by omega]
  simp only [qlm, qg]
  rw [wh_pos ⟨h1, h2, h3, h4, by simp⟩]
  simp only [Option.bind_some]
  rw [wh_pos ⟨okB_iff.2 (pd_ok (by omega) _ _), by rw [pd_len]; omega⟩, val_pd (by omega) _ _ hlt]
  rfl
theorem spec_ref01_product : FnSpec Tryz.prog gl 107 ⟨[(false, (.slice (.int .i64))), (false, (.slice (.int .i64)))], [(false, (.slice (.int .i64)))], qds⟩ := qe fun x y h => ⟨qqb, 50, rfl, q05, (q13 x.1 x.2.1).trans (q14 x y h)⟩
theorem product_one {m d : Nat} (hm : (dg 10000 m).length ≤ 200000) (hd : d ≤ 10000) : qds (dg 10000 m, [(d : Int)], ()) = some (dg 10000 (m * d), ()) := by
  simp only [qds, val_dg4, val_cons, val_nil, Int.toNat_natCast, Nat.mul_zero, Nat.add_zero]
  exact wh_pos ⟨dg_okB m, .inr ⟨rfl, by simp [okB]; omega⟩, hm, by simp⟩
theorem dg_len_mul (m n : Nat) : (dg 10000 (m * n)).length ≤ (dg 10000 m).length + (dg 10000 n).length := by
  apply dg_len_le (by omega)
  rw [Nat.pow_add]
  exact Nat.mul_lt_mul'' (lt_dg_len (by omega) m) (lt_dg_len (by omega) n)
theorem qw8 {m n : Nat} (h : m ≤ n) : (dg 10000 m).length ≤ (dg 10000 n).length :=
  dg_len_le (by omega) _ _ (Nat.lt_of_le_of_lt h (lt_dg_len (by omega) n))
def qdp (x : (Bool × List Int × Unit) × (Bool × List Int × Unit) × Unit) : Option ((Bool × List Int × Unit) × Unit) :=
  wh (small 50000 x.1.2.1 ∧ small 50000 x.2.1.2.1) (pl ((if x.1.1 then -(val 10000 x.1.2.1 : Int) else val 10000 x.1.2.1) + (if x.2.1.1 then -(val 10000 x.2.1.2.1 : Int) else val 10000 x.2.1.2.1)), ())
noncomputable def qu6 : Env := (Env.mk' tyF fnF gl (lookT [(139, ⟨[(false, (.slice (.int .i64))), (false, (.slice (.int .i64)))], [(false, (.slice (.int .i64)))], qp⟩), (103, ⟨[(false, .bool), (false, (.slice (.int .i64)))], [(false, (.prod .bool (.prod (.slice (.int .i64)) .unit)))], qaa⟩), (138, ⟨[(false, (.slice (.int .i64))), (false, (.slice (.int .i64)))], [(false, (.int .i64))], qkd⟩), (161, ⟨[(false, (.slice (.int .i64))), (false, (.slice (.int .i64)))], [(false, (.slice (.int .i64)))], qn9⟩)]) (lookL []) (fun _ _ => none))
theorem q3c : EnvAll Tryz.prog qu6 := EnvAll.mk' tabs _ (qb ⟨spec_ref01_difference, ⟨spec_ref01_made, ⟨spec_ref01_order, ⟨spec_ref01_sum, trivial⟩⟩⟩⟩) (qa trivial)
noncomputable def ref01_Plus (a : (Bool × ((List Int) × Unit))) (b : (Bool × ((List Int) × Unit))) : Option ((Bool × ((List Int) × Unit)) × Unit) :=
  cond' ((a.1 == b.1)) (
    (qn9 (a.2.1, b.2.1, ())).bind fun y1 =>
    (qaa (a.1, y1.1, ())).bind fun y2 =>
    some (y2.1, ())) (
    (qkd (a.2.1, b.2.1, ())).bind fun y3 =>
    cond' ((decide (y3.1 ≥ (0 : Int)))) (
      (qp (a.2.1, b.2.1, ())).bind fun y4 =>
      (qaa (a.1, y4.1, ())).bind fun y5 =>
      some (y5.1, ())) (
      (qp (b.2.1, a.2.1, ())).bind fun y6 =>
      (qaa (b.1, y6.1, ())).bind fun y7 =>
      some (y7.1, ())))
theorem q3v (a : (Bool × ((List Int) × Unit))) (b : (Bool × ((List Int) × Unit))) : evFn qu6 50 140 [(false, (.prod .bool (.prod (.slice (.int .i64)) .unit))), (false, (.prod .bool (.prod (.slice (.int .i64)) .unit)))] [(false, (.prod .bool (.prod (.slice (.int .i64)) .unit)))] (a, b, ()) = ref01_Plus a b := by kernel_rfl
theorem pl_of (s : Bool) (n : Nat) : ((s && decide (0 < n), dg 10000 n, ()) : Bool × List Int × Unit) = pl (if s then -(n : Int) else n) := by
  cases s with
  | false => simp [pl]
  | true =>
    simp only [Bool.true_and, if_true, pl, Int.natAbs_neg, Int.natAbs_natCast]
    congr 1
    rw [decide_eq_decide]; omega
theorem q3w (x : (Bool × List Int × Unit) × (Bool × List Int × Unit) × Unit) (y : (Bool × List Int × Unit) × Unit) (h : qdp x = some y) : ref01_Plus x.1 x.2.1 = some y := by
  obtain ⟨⟨s, a, ⟨⟩⟩, ⟨t, b, ⟨⟩⟩, ⟨⟩⟩ := x
  obtain ⟨⟨h1, h2⟩, rfl⟩ := wh_some h
  simp only at h1 h2
  obtain ⟨m, rfl, hm⟩ := small_ex h1
  obtain ⟨n, rfl, hn⟩ := small_ex h2
  simp only [val_dg4]
  have ha := dg_len_add m n
  by_cases hs : s = t
  · subst hs
    simp only [ref01_Plus, beq_self_eq_true, cond'_true]
    rw [sum_dg (by omega) (by omega)]
    simp only [Option.bind_some]
    rw [made_dg _ _ (by omega)]
    simp only [Option.bind_some]
    rw [pl_of]
    cases s <;> simp <;> (congr 2; omega)
  · have he : (s == t) = false := by simpa using hs
    simp only [ref01_Plus, he, cond'_false]
    rw [order_dg (by omega) (by omega)]
    simp only [Option.bind_some]
    have ho := ordv_dg m n
    by_cases hle : n ≤ m
    · rw [cond'_pos (by omega), difference_dg hle (by omega) (by omega)]
      have hl := qw8 (show m - n ≤ m by omega)
      simp only [Option.bind_some]
      rw [made_dg _ _ (by omega)]
      simp only [Option.bind_some]
      rw [pl_of]
      cases s <;> cases t <;> simp at hs ⊢ <;> (congr 2; omega)
    · rw [cond'_neg (by omega), difference_dg (by omega) (by omega) (by omega)]
      have hl := qw8 (show n - m ≤ n by omega)
      simp only [Option.bind_some]
      rw [made_dg _ _ (by omega)]
      simp only [Option.bind_some]
      rw [pl_of]
      cases s <;> cases t <;> simp at hs ⊢ <;> (congr 2; omega)
theorem spec_ref01_Plus : FnSpec Tryz.prog gl 140 ⟨[(false, (.prod .bool (.prod (.slice (.int .i64)) .unit))), (false, (.prod .bool (.prod (.slice (.int .i64)) .unit)))], [(false, (.prod .bool (.prod (.slice (.int .i64)) .unit)))], qdp⟩ := qe fun x y h => ⟨qu6, 50, rfl, q3c, (q3v x.1 x.2.1).trans (q3w x y h)⟩
end
end Go.AV
end
