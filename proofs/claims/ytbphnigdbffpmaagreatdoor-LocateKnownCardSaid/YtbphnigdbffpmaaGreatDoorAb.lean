/- It is proved that the law LocateKnown returns true, whatever the world it starts in, as long as the package variables that its row lists hold what the program's text gives them. Part 2 of 6. The last part holds the statement; this one a part of the way to it. -/
import Derived.Laws.StructEq
import Derived.Laws.Cover3
import Derived.Laws.Pointers
import Derived.RangeFuncLeaves
import Derived.RangeFuncRecord
import Derived.RangeFuncNested
import Derived.Scope
import Derived.Test.YtbphnigdbffpmaaGreatDoorAa
set_option linter.unusedVariables false
set_option linter.unusedSimpArgs false
set_option exponentiation.threshold 1000
section
set_option linter.unusedVariables false
set_option linter.unusedSimpArgs false
namespace Go.AV
open Go Go.RowKit
section
variable {P : Program} {E : Env}
section ops
variable {w0 : Base} {sp : List (Nat × Obj)} {Γ : Ctx} {a : Act} {rv : Operand → Option AV} {σ : Look} {ρ : Type} {r : ρ}
theorem flat_at {n s k : Nat} {us : Nat → List Value} (h : ∀ i, i < n → (us i).length = s) (hk : k < n * s) :
    ∃ i j, i < n ∧ j < s ∧ k = i * s + j ∧ ((List.range n).flatMap us)[k]? = (us i)[j]? := by
  have hpos : 0 < s := by
    rcases Nat.eq_zero_or_pos s with h0 | h0
    · rw [h0] at hk; simp at hk
    · exact h0
  have hq : k / s < n := (Nat.div_lt_iff_lt_mul hpos).2 hk
  have hm : k % s < s := Nat.mod_lt _ hpos
  have hkk : k = k / s * s + k % s := by rw [Nat.mul_comm]; exact (Nat.div_add_mod k s).symm
  refine ⟨k / s, k % s, hq, hm, hkk, ?_⟩
  obtain ⟨pre, post, e1, e2⟩ := split_flatMap us h hq
  rw [e1, List.append_assoc]
  generalize k / s = q at *
  generalize k % s = j at *
  rw [hkk, ← e2]
  rw [List.getElem?_append_right (by omega), Nat.add_sub_cancel_left, List.getElem?_append_left (by rw [h _ hq]; exact hm)]
theorem asList_cells (hg : Good w0 sp Γ) (hσ : LookOk Γ σ) {t : Ty} {x : AV} {u : Value} (hx : x.val Γ u) {ys : List t.den} (h : asList σ t x = some ys) :
    ∃ ad cap news, u = .slice ad ys.length cap ∧ (Ty.arr ys.length t).rep Γ.w Γ.ok ys news ∧ (0 < ys.length → ∃ b o, ad = some ⟨b, o, none⟩ ∧ cellsAt Γ.w b o news) := by
  unfold asList at h
  split at h
  · rename_i t' xs
    obtain ⟨e, he⟩ := castTy_some h
    simp only [Ty.slice.injEq] at e
    subst e
    simp only at he
    subst he
    obtain ⟨ad, cap, rfl, hl, hc⟩ := val_slice hx
    by_cases h0 : 0 < List.length xs
    · obtain ⟨b, o, rfl, hok, hcells⟩ := hc h0
      have hch : ∃ usf : Nat → List Value, ∀ i, i < List.length xs → t'.rep Γ.w Γ.ok (List.getD xs i t'.dflt) (usf i) ∧ cellsAt Γ.w b (o + i * t'.size) (usf i) := by
        refine ⟨fun i => if hi : i < List.length xs then (hcells i hi).choose else [], fun i hi => ?_⟩
        simp only [dif_pos hi]
        exact (hcells i hi).choose_spec
      obtain ⟨usf, hf⟩ := hch
      have hlen : ∀ i, i < List.length xs → (usf i).length = t'.size := fun i hi => Ty.rep_len t' (hf i hi).1
      refine ⟨_, cap, (List.range (List.length xs)).flatMap usf, rfl, ⟨rfl, usf, rfl, fun i hi => (hf i hi).1⟩, fun _ => ⟨b, o, rfl, fun k hk => ?_⟩⟩
      rw [length_flatMap_range hlen] at hk
      obtain ⟨i, j, hi, hj, rfl, he⟩ := flat_at hlen hk
      rw [he, ← Nat.add_assoc]
      exact (hf i hi).2 j (by rw [hlen i hi]; exact hj)
    · have hnil : xs = [] := List.eq_nil_of_length_eq_zero (by omega)
      subst hnil
      exact ⟨ad, cap, [], rfl, ⟨rfl, fun _ => [], rfl, fun i hi => absurd hi (by simp)⟩, fun h => absurd h (by simp)⟩
  · simp only [Option.some.injEq] at h
    subst h
    exact ⟨none, 0, [], hx, ⟨rfl, fun _ => [], rfl, fun i hi => absurd hi (by simp)⟩, fun h => absurd h (by simp)⟩
  · rename_i i
    split at h
    · rename_i p t' xs hi
      obtain ⟨e, he⟩ := castTy_some h
      simp only [Ty.slice.injEq] at e
      subst e
      simp only at he
      subst he
      have hσi := hσ i _ hi
      have hx' : Γ.ownv i u := hx
      unfold Ctx.ownv at hx'
      rw [hσi] at hx'
      obtain ⟨ad, cap, rfl, hl, hc⟩ := hx'
      rcases hg.ent i _ hσi with ⟨q, _⟩ | ⟨b', C', T', q1, q2, ⟨us, rest, q3, q4⟩, q5⟩
      · subst q
        exact ⟨ad, cap, [], rfl, ⟨rfl, fun _ => [], rfl, fun i hi => absurd hi (by simp)⟩, fun h => absurd h (by simp)⟩
      · refine ⟨ad, cap, us, rfl, q4, fun h0 => ?_⟩
        rcases hc with rfl | ⟨b, C, T, h1, h2, h3, h4⟩
        · omega
        · rw [h1] at q1
          simp only [Option.some.injEq] at q1
          subst q1
          exact ⟨b, 0, h2, cellsAt_blk q2 (pre := []) (post := rest) (by simpa using q3)⟩
    · simp at h
  · simp at h
theorem run_firstCells_any {w : World} {size m cap : Nat} {ad : Option Addr} {news : List Value} (hl : news.length = m * size) (h : 0 < m → ∃ b o, ad = some ⟨b, o, none⟩ ∧ cellsAt w b o news) :
    (Builtin.firstCells size m (.slice ad m cap)).run P w = .ok news.toArray w := by
  by_cases h0 : 0 < m
  · obtain ⟨b, o, rfl, hc⟩ := h h0
    exact run_firstCells_some w size m ⟨b, o, none⟩ m cap news hl (fun j v hv => by
      rw [Addr.add_mid, hc j (List.getElem?_eq_some_iff.1 hv).1, hv])
  · have hm : m = 0 := by omega
    subst hm
    have hn : news = [] := List.eq_nil_of_length_eq_zero (by simpa using hl)
    subst hn
    cases ad with
    | none => exact run_firstCells_none w size 0 0 cap
    | some a => exact run_firstCells_some w size 0 a 0 cap [] (by simp) (fun j v hv => by simp at hv)
theorem run_append_room' {w : World} {t ty e : TypeId} {size : Nat} (ht : P.underlying t = some (.slice e)) (hs : (sizeOf e).run P w = .ok size w) (g sLen sCap : Nat) (cur : Array Value) (T : TypeId) (hg : blk w g cur T)
    {ad : Option Addr} {m c : Nat} {news : List Value} (hf : (Builtin.firstCells size m (.slice ad m c)).run P w = .ok news.toArray w) (h1 : ∀ u ∈ news, u.oneCell' = true) (hroom : sLen + m ≤ sCap) (hfit : sLen * size + news.length ≤ cur.size) :
    (Builtin.append_ #[t, t] ty #[.slice (some ⟨g, 0, none⟩) sLen sCap, .slice ad m c]).run P w =
      .ok (.slice (some ⟨g, 0, none⟩) (sLen + m) sCap) (w.setRow g (cur.toList.take (sLen * size) ++ news ++ cur.toList.drop (sLen * size + news.length)).toArray) := by
  have hst := run_storeCells_at (P := P) g (sLen * size) T news 0 cur w hg (by simpa using hfit) h1
  simp only [Nat.add_zero] at hst
  simp [Builtin.append_, run_underlying ht, hs, Builtin.lenOf, hroom, hf, Addr.add_lit, hst]
theorem run_append_zero {w : World} {t ty e : TypeId} {size : Nat} (ht : P.underlying t = some (.slice e)) (hs : (sizeOf e).run P w = .ok size w) {base : Option Addr} {sLen sCap : Nat} (hle : sLen ≤ sCap)
    {ad : Option Addr} {c : Nat} (hf : (Builtin.firstCells size 0 (.slice ad 0 c)).run P w = .ok #[] w) :
    (Builtin.append_ #[t, t] ty #[.slice base sLen sCap, .slice ad 0 c]).run P w = .ok (.slice base sLen sCap) w := by
  cases base with
  | none => simp [Builtin.append_, run_underlying ht, hs, Builtin.lenOf, hle, hf]
  | some a => simp [Builtin.append_, run_underlying ht, hs, Builtin.lenOf, hle, hf, storeCells]
theorem arr_append {w : World} {ok : Nat → Prop} {t : Ty} {xs ys : List t.den} {us vs : List Value} (h1 : (Ty.arr xs.length t).rep w ok xs us) (h2 : (Ty.arr ys.length t).rep w ok ys vs) :
    (Ty.arr (xs ++ ys).length t).rep w ok (xs ++ ys) (us ++ vs) := by
  obtain ⟨_, uf, rfl, hu⟩ := h1
  obtain ⟨_, vf, rfl, hv⟩ := h2
  refine ⟨rfl, fun i => if i < xs.length then uf i else vf (i - xs.length), ?_, fun i hi => ?_⟩
  · rw [List.length_append, List.range_add, List.flatMap_append, List.flatMap_map]
    congr 1
    · rw [List.flatMap_def, List.flatMap_def]
      congr 1
      exact List.map_congr_left fun i hi => by rw [if_pos (List.mem_range.1 hi)]
    · rw [List.flatMap_def, List.flatMap_def]
      congr 1
      exact List.map_congr_left fun i hi => by rw [if_neg (by omega), Nat.add_sub_cancel_left]
  · by_cases hlt : i < xs.length
    · have := hu i hlt
      simp only [hlt, if_true]
      rw [List.getD_eq_getElem?_getD] at this ⊢
      rwa [List.getElem?_append_left hlt]
    · have hi' : i - xs.length < ys.length := by simp at hi; omega
      have := hv _ hi'
      simp only [hlt, if_false]
      rw [List.getD_eq_getElem?_getD] at this ⊢
      rwa [List.getElem?_append_right (by omega)]
theorem Done.own {Γ' : Ctx} {s : Sem Value} {nx : Nat} {e : Eff} {u : Value} (h : s.run P Γ.w = .ok u Γ'.w) (h1 : Γ'.ownv nx u) (h2 : Γ.le Γ') (h3 : Γ'.σ = updE Γ.σ e) (h4 : Γ'.lb = Γ.lb) (h5 : Good w0 sp Γ') :
    Done w0 sp Γ ((do pure (.value (← s)) : Sem Next).run P Γ.w) (.own nx) e :=
  ⟨u, Γ', .inl (by simp [h]), h1, h2, h3, h4, h5⟩
theorem grow_done (hg : Good w0 sp Γ) {nx : Nat} (hf : Fresh Γ nx) {t : Ty} {xs : List t.den} (T : TypeId) {C : Array Value} (hC : rowCells Γ.w Γ.ok t xs C) {cap : Nat} (hcap : C.size = cap * t.size) (hl : xs.length ≤ cap) :
    ∃ Γ' : Ctx, Γ'.w = Γ.w.drew.alloc (.cells C T) ∧ Γ'.ownv nx (.slice (some ⟨Γ.w.heap.size, 0, none⟩) xs.length cap) ∧ Γ.le Γ' ∧ Γ'.σ = updN Γ.σ nx (some (.row false t xs)) ∧ Γ'.lb = Γ.lb ∧ Good w0 sp Γ' := by
  obtain ⟨l1, g1⟩ := hg.sameHeap (w' := Γ.w.drew) rfl rfl rfl rfl
  have hno : ¬ Γ.ok Γ.w.heap.size := fun hk => by have := (hg.okb _ hk).1; omega
  obtain ⟨Γ', h1, h2, h3, h4, h5, h6, h7⟩ := g1.born (nx := nx) hf C T (.row false t xs) (fun Γ' hle hw hok hβ =>
    .inr ⟨Γ.w.heap.size, C, T, hβ, by unfold blk; rw [hw]; exact heap_alloc_new _ _, qin (l1.trans hle).ok hC, by simp [hok, hno]⟩)
  refine ⟨Γ', h1, ?_, l1.trans h6, h2, h4, h7⟩
  unfold Ctx.ownv
  rw [h2]
  simp only [updN_same]
  refine ⟨_, cap, rfl, hl, .inr ⟨_, C, T, h5, rfl, ?_, hcap⟩⟩
  unfold blk
  rw [h1]
  exact heap_alloc_new _ _
theorem append_done (hD : TabOk P E) (hg : Good w0 sp Γ) (hσ : LookOk Γ σ) {nx : Nat} (hf : Fresh Γ nx) {T : TypeId} {s x : AV} {u v : Value} (hs : s.val Γ u) (hx : x.val Γ v) {q : AV → Eff → Option ρ}
    (h : appendK E T σ nx s x q = some r) (ty : TypeId) : ∃ y e, q y e = some r ∧ Done w0 sp Γ ((do pure (.value (← Builtin.append_ #[T, T] ty #[u, v])) : Sem Next).run P Γ.w) y e := by
  unfold appendK at h
  split at h
  · simp at h
  · rename_i t by_ he
    obtain ⟨el, d, g1, g2, g3, rfl⟩ := qoi hD he
    have hT := hD el d g2
    obtain ⟨ti, z, q1, q2, q3, q4, q5⟩ := hT.info
    obtain ⟨s1, s2, s3, s4⟩ := hT.ty t g3
    have hzs : z.cells.size = d.size := by
      obtain ⟨zs, hz1, hz2⟩ := q5 Γ
      rw [hz2, AV.mk_cells hz1, ← hT.zshp, ← AV.cells_len _ hz1]
      simp
    have hbound : ∀ n : Nat, n * d.bytes ≤ 140737488355328 → n ≤ 140737488355328 := fun n hn => Nat.le_trans (Nat.le_mul_of_pos_right _ s3.2) hn
    split at h
    · simp at h
    · rename_i ys hys
      obtain ⟨ad, cap, news, rfl, hnews, hcell⟩ := asList_cells hg hσ hx hys
      have hnl : news.length = ys.length * d.size := by rw [Ty.rep_len _ hnews]; simp [Ty.size, s1]
      have hone := Ty.rep_one _ hnews
      have hsz := run_sizeOf_k hT Γ.w
      have hfc := run_firstCells_any (P := P) (cap := cap) hnl hcell
      split at h
      ·
        obtain ⟨hb, h⟩ := cond'_some h
        simp only [decide_eq_true_eq] at hb
        have hbb := hbound _ hb
        have hu : u = .slice none 0 0 := hs
        subst hu
        refine ⟨_, _, h, ?_⟩
        by_cases h0 : 0 < ys.length
        · obtain ⟨b, o, rfl, hc⟩ := hcell h0
          have hr := run_append_nil (P := P) Γ.w T T el ti z g1 q1 q4 ⟨b, o, none⟩ ys.length cap news (by rw [q2]; exact hnl) (fun j v hv => by
            rw [Addr.add_mid, hc j (List.getElem?_eq_some_iff.1 hv).1, hv]) h0 (by omega) (by rw [q3]; omega)
          have hge := grownCap_ge Γ.w ys.length 0 el
          obtain ⟨Γ', k1, k2, k3, k4, k5, k6⟩ := grow_done hg hf (t := t) (xs := ys) el (C := news.toArray ++ Builtin.zeroCells z.cells (grownCap Γ.w ys.length 0 el - ys.length))
            ⟨news, (Builtin.zeroCells z.cells (grownCap Γ.w ys.length 0 el - ys.length)).toList, by simp, hnews⟩ (cap := grownCap Γ.w ys.length 0 el)
            (by rw [Array.size_append, size_zeroCells, hzs, s1, List.size_toArray, hnl, ← Nat.add_mul]; congr 1; omega) hge
          refine Done.own (u := .slice (some ⟨Γ.w.heap.size, 0, none⟩) ys.length (grownCap Γ.w ys.length 0 el)) ?_ k2 k3 k4 k5 k6
          rw [k1]; exact hr
        · have hnil : ys = [] := List.eq_nil_of_length_eq_zero (by omega)
          subst hnil
          have hn0 : news = [] := List.eq_nil_of_length_eq_zero (by simpa using hnl)
          subst hn0
          obtain ⟨Γ', k1, k2, k3, k4, k5, k6, k7⟩ := hg.bornNil hf t
          refine Done.own (u := .slice none 0 0) ?_ ?_ k6 k2 k4 k7
          · rw [k1]; exact run_append_zero g1 hsz (Nat.le_refl _) hfc
          · unfold Ctx.ownv; rw [k2]; simp only [updN_same]; exact ⟨none, 0, rfl, Nat.le_refl _, .inl rfl⟩
      ·
        rename_i i
        split at h
        · rename_i t' xs0 hi
          split at h
          · rename_i xs hcast
            obtain ⟨e, he'⟩ := castTy_some hcast
            simp only [Ty.slice.injEq] at e
            subst e
            simp only at he'
            subst he'
            obtain ⟨hb, h⟩ := cond'_some h
            simp only [decide_eq_true_eq] at hb
            refine ⟨_, _, h, ?_⟩
            have hbb := hbound _ hb
            have hσi := hσ i _ hi
            have hni : nx ≠ i := by
              rintro rfl
              rcases hf with hh | hh <;> rw [hh] at hσi <;> simp at hσi
            have hu : Γ.ownv i u := hs
            unfold Ctx.ownv at hu
            rw [hσi] at hu
            obtain ⟨au, cu, rfl, hl, hcu⟩ := hu
            have hkill : ∀ {Γ1 : Ctx}, Γ1.σ = updN Γ.σ nx (some (.row false t' (xs0 ++ ys))) → Γ1.σ i ≠ some .unborn := by
              intro Γ1 e1
              rw [e1, updN_ne _ _ (Ne.symm hni), hσi]
              simp
            rcases hcu with rfl | ⟨b, C, T', c1, rfl, c3, c4⟩
            ·
              have hx0 : xs0 = [] := List.eq_nil_of_length_eq_zero (by omega)
              subst hx0
              by_cases h0 : 0 < ys.length
              · obtain ⟨bx, o, rfl, hc⟩ := hcell h0
                have hbig : ∃ C0 : Array Value, (Builtin.append_ #[T, T] ty #[.slice au 0 0, .slice (some ⟨bx, o, none⟩) ys.length cap]).run P Γ.w =
                    .ok (.slice (some ⟨Γ.w.heap.size, 0, none⟩) ys.length (grownCap Γ.w ys.length 0 el)) (Γ.w.drew.alloc (.cells C0 el)) ∧ C0.toList = news ++ (Builtin.zeroCells z.cells (grownCap Γ.w ys.length 0 el - ys.length)).toList := by
                  cases au with
                  | none =>
                    exact ⟨_, run_append_nil (P := P) Γ.w T ty el ti z g1 q1 q4 ⟨bx, o, none⟩ ys.length cap news (by rw [q2]; exact hnl) (fun j v hv => by
                      rw [Addr.add_mid, hc j (List.getElem?_eq_some_iff.1 hv).1, hv]) h0 (by omega) (by rw [q3]; simp at hb; omega), by simp⟩
                  | some a0 =>
                    have := run_append_grow (P := P) Γ.w T ty el ti z g1 q1 q4 a0 0 0 [] (by simp) (fun j v hv => by simp at hv) ⟨bx, o, none⟩ ys.length cap news (by rw [q2]; exact hnl) (fun j v hv => by
                      rw [Addr.add_mid, hc j (List.getElem?_eq_some_iff.1 hv).1, hv]) (by omega) (by simp at hb ⊢; omega) (growslice_fits (by omega) (by rw [q3]; simpa using hb))
                    simp only [Nat.zero_add] at this
                    exact ⟨_, this, by simp⟩
                obtain ⟨C0, hr, hC0⟩ := hbig
                have hge := grownCap_ge Γ.w ys.length 0 el
                obtain ⟨Γ', k1, k2, k3, k4, k5, k6⟩ := grow_done hg hf (t := t') (xs := [] ++ ys) el (C := C0)
                  ⟨news, _, hC0, hnews⟩ (cap := grownCap Γ.w ys.length 0 el)
                  (by
                    have e0 : C0.size = news.length + (Builtin.zeroCells z.cells (grownCap Γ.w ys.length 0 el - ys.length)).size := by
                      have := congrArg List.length hC0
                      simpa using this
                    rw [e0, size_zeroCells, hzs, s1, hnl, ← Nat.add_mul]; congr 1; omega) hge
                obtain ⟨m1, m2⟩ := k6.kill i (hkill k4)
                refine Done.own (u := .slice (some ⟨Γ.w.heap.size, 0, none⟩) ys.length (grownCap Γ.w ys.length 0 el)) (by show _ = Result.ok _ Γ'.w; rw [k1]; exact hr) ?_ (k3.trans m1) (by rw [show ({ Γ' with σ := updN Γ'.σ i (some .dead) } : Ctx).σ = updN Γ'.σ i (some .dead) from rfl, k4]; rfl) k5 m2
                unfold Ctx.ownv at k2 ⊢
                simp only [updN_ne _ _ hni]
                exact k2
              · have hnil : ys = [] := List.eq_nil_of_length_eq_zero (by omega)
                subst hnil
                have hn0 : news = [] := List.eq_nil_of_length_eq_zero (by simpa using hnl)
                subst hn0
                obtain ⟨Γ', k1, k2, k3, k4, k5, k6, k7⟩ := hg.bornNil hf t'
                obtain ⟨m1, m2⟩ := k7.kill i (hkill k2)
                refine Done.own (u := .slice au 0 0) (by show _ = Result.ok _ Γ'.w; rw [k1]; exact run_append_zero g1 hsz (Nat.le_refl _) hfc) ?_ (k6.trans m1) (by rw [show ({ Γ' with σ := updN Γ'.σ i (some .dead) } : Ctx).σ = updN Γ'.σ i (some .dead) from rfl, k2]; rfl) k4 m2
                unfold Ctx.ownv
                simp only [updN_ne _ _ hni, k2, updN_same]
                exact ⟨au, 0, rfl, Nat.le_refl _, .inl rfl⟩
            ·
              rcases hg.ent i _ hσi with ⟨_, qq⟩ | ⟨b', C', T'', p1, p2, ⟨us, rest, p3, p4⟩, p5⟩
              · rw [c1] at qq; simp at qq
              · rw [c1] at p1
                simp only [Option.some.injEq] at p1
                subst p1
                have hCC : C' = C ∧ T'' = T' := by
                  have heq : some (Obj.cells C T' (0, 0)) = some (Obj.cells C' T'' (0, 0)) := c3.symm.trans p2
                  simp only [Option.some.injEq, Obj.cells.injEq] at heq
                  exact ⟨heq.1.symm, heq.2.1.symm⟩
                obtain ⟨rfl, rfl⟩ := hCC
                have hul : us.length = xs0.length * d.size := by rw [Ty.rep_len _ p4]; simp [Ty.size, s1]
                have hcs : C'.size = cu * d.size := by rw [c4, s1]
                by_cases hroom : xs0.length + ys.length ≤ cu
                ·
                  have hfit : xs0.length * d.size + news.length ≤ C'.size := by rw [hnl, hcs, ← Nat.add_mul]; exact Nat.mul_le_mul_right _ hroom
                  have hr := run_append_room' (ty := ty) g1 hsz b xs0.length cu C' T'' p2 hfc hone hroom hfit
                  have htake : C'.toList.take (xs0.length * d.size) = us := by rw [p3, ← hul]; simp
                  rw [htake] at hr
                  obtain ⟨Γ', k1, k2, k3, k4, k5, k6, k7⟩ := hg.renew (nx := nx) hf (e' := .row false t' (xs0 ++ ys)) (C' := (us ++ news ++ C'.toList.drop (xs0.length * d.size + news.length)).toArray) (w' := Γ.w.setRow b (us ++ news ++ C'.toList.drop (xs0.length * d.size + news.length)).toArray) hσi rfl c1 p2 (setRow_heap Γ.w b C' _ T'' _ p2)
                    (by simp only [List.size_toArray, List.length_append, List.length_drop, Array.length_toList, hul]; omega) (fun k hk => setRow_other Γ.w b k _ hk) (by simp [World.setRow]) rfl rfl rfl (fun Γ' hle hw hok hβ =>
                      .inr ⟨b, _, T'', hβ, by unfold blk; rw [hw]; exact setRow_heap Γ.w b C' _ T'' _ p2, qin hle.ok ⟨us ++ news, _, by simp; rfl, arr_append p4 hnews⟩, by simpa [hok] using p5⟩)
                  refine Done.own (u := .slice (some ⟨b, 0, none⟩) (xs0.length + ys.length) cu) (by rw [k1]; exact hr) ?_ k6 k2 k4 k7
                  unfold Ctx.ownv
                  rw [k2, updN_ne _ _ hni, updN_same]
                  refine ⟨_, cu, by simp, by simp; omega, .inr ⟨b, _, T'', k5, rfl, by unfold blk; rw [k1]; exact setRow_heap Γ.w b C' _ T'' _ p2, ?_⟩⟩
                  simp only [List.size_toArray, List.length_append, List.length_drop, Array.length_toList, hul, s1]
                  omega
                ·
                  have h0 : 0 < ys.length := by omega
                  obtain ⟨bx, o, rfl, hc⟩ := hcell h0
                  have hold : ∀ j v, us[j]? = some v → Γ.w.cell? ((⟨b, 0, none⟩ : Addr).add j) = some v := by
                    intro j v hv
                    have hca := cellsAt_blk p2 (pre := []) (us := us) (post := rest) (by simpa using p3)
                    rw [Addr.add_mid]
                    exact (hca j (List.getElem?_eq_some_iff.1 hv).1).trans hv
                  have hr := run_append_grow (P := P) Γ.w T ty el ti z g1 q1 q4 ⟨b, 0, none⟩ xs0.length cu us (by rw [q2]; exact hul) hold ⟨bx, o, none⟩ ys.length cap news (by rw [q2]; exact hnl) (fun j v hv => by
                      rw [Addr.add_mid, hc j (List.getElem?_eq_some_iff.1 hv).1, hv]) (by omega) (by omega) (growslice_fits (by omega) (by rw [q3]; exact hb))
                  have hge := grownCap_ge Γ.w (xs0.length + ys.length) cu el
                  obtain ⟨Γ', k1, k2, k3, k4, k5, k6⟩ := grow_done hg hf (t := t') (xs := xs0 ++ ys) el (C := us.toArray ++ news.toArray ++ Builtin.zeroCells z.cells (grownCap Γ.w (xs0.length + ys.length) cu el - (xs0.length + ys.length)))
                    ⟨us ++ news, _, by simp; rfl, arr_append p4 hnews⟩ (cap := grownCap Γ.w (xs0.length + ys.length) cu el)
                    (by simp only [Array.size_append, size_zeroCells, hzs, s1, List.size_toArray, hnl, hul, ← Nat.add_mul]; congr 1; omega) (by simpa using hge)
                  obtain ⟨m1, m2⟩ := k6.kill i (hkill k4)
                  refine Done.own (u := .slice (some ⟨Γ.w.heap.size, 0, none⟩) (xs0.length + ys.length) (grownCap Γ.w (xs0.length + ys.length) cu el)) (by show _ = Result.ok _ Γ'.w; rw [k1]; exact hr) ?_ (k3.trans m1) (by rw [show ({ Γ' with σ := updN Γ'.σ i (some .dead) } : Ctx).σ = updN Γ'.σ i (some .dead) from rfl, k4]; rfl) k5 m2
                  unfold Ctx.ownv at k2 ⊢
                  simp only [updN_ne _ _ hni]
                  simpa using k2
          · simp at h
        · simp at h
      · simp at h
end ops
end
end Go.AV
end
section
set_option linter.unusedVariables false
set_option linter.unusedSimpArgs false
namespace Go.AV
open Go Go.RowKit
section
variable {P : Program} {E : Env}
section ops
variable {w0 : Base} {sp : List (Nat × Obj)} {Γ : Ctx} {a : Act} {rv : Operand → Option AV} {σ : Look} {ρ : Type} {r : ρ}
theorem arr_take {w : World} {ok : Nat → Prop} {t : Ty} {xs : List t.den} {us : List Value} (k : Nat) (hk : k ≤ xs.length) (h : (Ty.arr xs.length t).rep w ok xs us) :
    (Ty.arr (xs.take k).length t).rep w ok (xs.take k) (us.take (k * t.size)) := by
  obtain ⟨_, uf, rfl, hu⟩ := h
  have hlen : ∀ i, i < xs.length → (uf i).length = t.size := fun i hi => Ty.rep_len t (hu i hi)
  have hl : (xs.take k).length = k := by simp; omega
  refine ⟨rfl, uf, ?_, fun i hi => ?_⟩
  · rw [hl]
    have e : xs.length = k + (xs.length - k) := by omega
    conv => lhs; rw [e, List.range_add, List.flatMap_append]
    rw [List.take_left' (length_flatMap_range fun i hi => hlen i (by omega))]
  · rw [hl] at hi
    have := hu i (by omega)
    rw [List.getD_eq_getElem?_getD] at this ⊢
    rwa [List.getElem?_take_of_lt hi]
theorem arr_drop {w : World} {ok : Nat → Prop} {t : Ty} {xs : List t.den} {us : List Value} (k : Nat) (hk : k ≤ xs.length) (h : (Ty.arr xs.length t).rep w ok xs us) :
    (Ty.arr (xs.drop k).length t).rep w ok (xs.drop k) (us.drop (k * t.size)) := by
  obtain ⟨_, uf, rfl, hu⟩ := h
  have hlen : ∀ i, i < xs.length → (uf i).length = t.size := fun i hi => Ty.rep_len t (hu i hi)
  have hl : (xs.drop k).length = xs.length - k := by simp
  refine ⟨rfl, fun i => uf (k + i), ?_, fun i hi => ?_⟩
  · rw [hl]
    have e : xs.length = k + (xs.length - k) := by omega
    conv => lhs; rw [e, List.range_add, List.flatMap_append]
    rw [List.drop_left' (length_flatMap_range fun i hi => hlen i (by omega)), List.flatMap_map]
  · rw [hl] at hi
    have := hu (k + i) (by omega)
    rw [List.getD_eq_getElem?_getD] at this ⊢
    rwa [List.getElem?_drop]
theorem firstCells_take {w : World} {size m n cap : Nat} {ad : Option Addr} {news : List Value} (hl : news.length = m * size) (hn : n ≤ m) (h : 0 < m → ∃ b o, ad = some ⟨b, o, none⟩ ∧ cellsAt w b o news) :
    (Builtin.firstCells size n (.slice ad m cap)).run P w = .ok (news.take (n * size)).toArray w := by
  have hle : n * size ≤ news.length := by rw [hl]; exact Nat.mul_le_mul_right _ hn
  cases ad with
  | none =>
    have hm : m = 0 := by
      rcases Nat.eq_zero_or_pos m with h0 | h0
      · exact h0
      · obtain ⟨b, o, e, _⟩ := h h0; simp at e
    subst hm
    have : news = [] := List.eq_nil_of_length_eq_zero (by simpa using hl)
    subst this
    simp [Builtin.firstCells]
  | some a0 =>
    by_cases h0 : 0 < m
    · obtain ⟨b, o, e, hc⟩ := h h0
      simp only [Option.some.injEq] at e
      subst e
      exact run_firstCells_some w size n ⟨b, o, none⟩ m cap (news.take (n * size)) (by simp; omega) (fun j v hv => by
        obtain ⟨hj, hv'⟩ := List.getElem?_eq_some_iff.1 hv
        rw [Addr.add_mid, hc j (by simp at hj; omega)]
        rw [List.getElem_take] at hv'
        rw [← hv']
        exact List.getElem?_eq_getElem (by simp at hj; omega))
    · have hm : m = 0 := by omega
      subst hm
      have : news = [] := List.eq_nil_of_length_eq_zero (by simpa using hl)
      subst this
      have hn0 : n = 0 := by omega
      subst hn0
      have := run_firstCells_some (P := P) w size 0 a0 0 cap [] (by simp) (fun j v hv => by simp at hv)
      simpa using this
theorem copy_done (hD : TabOk P E) (hg : Good w0 sp Γ) (hσ : LookOk Γ σ) {T T' : TypeId} {s x : AV} {u v : Value} (hs : s.val Γ u) (hx : x.val Γ v) {q : AV → Eff → Option ρ}
    (h : copyK E T σ s x q = some r) (ty : TypeId) : ∃ y e, q y e = some r ∧ Done w0 sp Γ ((do pure (.value (← Builtin.copy_ #[T, T'] ty #[u, v])) : Sem Next).run P Γ.w) y e := by
  unfold copyK at h
  split at h
  · simp at h
  · rename_i t by_ he
    obtain ⟨el, d, g1, g2, g3, rfl⟩ := qoi hD he
    have hT := hD el d g2
    obtain ⟨s1, s2, s3, s4⟩ := hT.ty t g3
    split at h
    · simp at h
    · rename_i ys hys
      obtain ⟨ad, cap, news, rfl, hnews, hcell⟩ := asList_cells hg hσ hx hys
      have hnl : news.length = ys.length * d.size := by rw [Ty.rep_len _ hnews]; simp [Ty.size, s1]
      have hone := Ty.rep_one _ hnews
      have hsz := run_sizeOf_k hT Γ.w
      split at h
      · rename_i i
        split at h
        · rename_i t' xs0 hi
          split at h
          · rename_i xs hcast
            obtain ⟨e, he'⟩ := castTy_some hcast
            simp only [Ty.slice.injEq] at e
            subst e
            simp only at he'
            subst he'
            refine ⟨_, _, h, ?_⟩
            have hσi := hσ i _ hi
            have hu : Γ.ownv i u := hs
            unfold Ctx.ownv at hu
            rw [hσi] at hu
            obtain ⟨au, cu, rfl, hl, hcu⟩ := hu
            have hfc := firstCells_take (P := P) (cap := cap) hnl (Nat.min_le_left ys.length xs0.length) hcell
            rcases hcu with rfl | ⟨b, C, T1, c1, rfl, c3, c4⟩
            · have hx0 : xs0 = [] := List.eq_nil_of_length_eq_zero (by omega)
              subst hx0
              have hrun : (Builtin.copy_ #[T, T'] ty #[.slice au 0 0, .slice ad ys.length cap]).run P Γ.w = .ok (.int .i64 0) Γ.w := by
                simp only [List.length_nil, Nat.min_zero, Nat.zero_mul, List.take_zero] at hfc
                have hm : Nat.min ys.length 0 = 0 := Nat.min_zero _
                cases au <;> simp [Builtin.copy_, run_underlying g1, Builtin.lenOf, hsz, hm, hfc, storeCells, goInt]
              obtain ⟨Γ', k1, k2, k3, k4⟩ : ∃ Γ' : Ctx, Γ'.w = Γ.w ∧ Γ'.σ = updN Γ.σ i (some (.row false t' (ys.take ([] : List t'.den).length ++ ([] : List t'.den).drop ys.length))) ∧ Γ'.lb = Γ.lb ∧ (Γ.le Γ' ∧ Good w0 sp Γ') := by
                have : updN Γ.σ i (some (.row false t' (ys.take ([] : List t'.den).length ++ ([] : List t'.den).drop ys.length))) = Γ.σ := by
                  funext k
                  by_cases hk : k = i
                  · subst hk; simp [hσi]
                  · rw [updN_ne _ _ hk]
                exact ⟨Γ, rfl, this.symm, rfl, Ctx.le.refl Γ, hg⟩
              refine ⟨.int .i64 0, Γ', .inl (by simp [hrun, k1]), by simp [val_int], k4.1, by rw [k2]; rfl, k3, k4.2⟩
            · rcases hg.ent i _ hσi with ⟨_, qq⟩ | ⟨b', C', T'', p1, p2, ⟨us, rest, p3, p4⟩, p5⟩
              · rw [c1] at qq; simp at qq
              · rw [c1] at p1
                simp only [Option.some.injEq] at p1
                subst p1
                have hul : us.length = xs0.length * d.size := by rw [Ty.rep_len _ p4]; simp [Ty.size, s1]
                let n := Nat.min ys.length xs0.length
                have hn1 : n ≤ ys.length := Nat.min_le_left _ _
                have hn2 : n ≤ xs0.length := Nat.min_le_right _ _
                have hnm : n * d.size ≤ us.length := by rw [hul]; exact Nat.mul_le_mul_right _ hn2
                have hnn : (news.take (n * d.size)).length = n * d.size := by
                  have := Nat.mul_le_mul_right d.size hn1
                  simp; omega
                have hst := run_storeCells_at (P := P) b 0 T'' (news.take (n * d.size)) 0 C' Γ.w p2 (by
                  have hle : us.length ≤ C'.size := by rw [← Array.length_toList (xs := C'), p3]; simp
                  omega) (fun z hz => hone z (List.mem_of_mem_take hz))
                simp only [Nat.add_zero, Nat.zero_add, List.take_zero, List.nil_append] at hst
                have hrun : (Builtin.copy_ #[T, T'] ty #[.slice (some ⟨b, 0, none⟩) xs0.length cu, .slice ad ys.length cap]).run P Γ.w = .ok (.int .i64 (n : Nat)) (Γ.w.setRow b (news.take (n * d.size) ++ C'.toList.drop (news.take (n * d.size)).length).toArray) := by
                  have hfc' : (Builtin.firstCells d.size (Nat.min ys.length xs0.length) (.slice ad ys.length cap)).run P Γ.w = .ok (news.take (n * d.size)).toArray Γ.w := hfc
                  generalize hW : Γ.w.setRow b (news.take (n * d.size) ++ C'.toList.drop (news.take (n * d.size)).length).toArray = W at hst ⊢
                  simp [Builtin.copy_, run_underlying g1, Builtin.lenOf, hsz, goInt, hfc', hst]
                  rfl
                have hlist : (ys.take xs0.length ++ xs0.drop ys.length) = ys.take n ++ xs0.drop n := by
                  by_cases hle : ys.length ≤ xs0.length
                  · have : n = ys.length := Nat.min_eq_left hle
                    rw [this]
                    congr 1
                    rw [List.take_of_length_le hle, List.take_length]
                  · have : n = xs0.length := Nat.min_eq_right (by omega)
                    rw [this]
                    congr 1
                    rw [List.drop_eq_nil_of_le (by omega), List.drop_length]
                have hrep := arr_append (arr_take n hn1 hnews) (arr_drop n hn2 p4)
                rw [s1] at hrep
                have hlen2 : (ys.take n ++ xs0.drop n).length = xs0.length := by simp; omega
                obtain ⟨Γ', k1, k2, k3, k4, k5, k6⟩ := hg.wrote (e' := .row false t' (ys.take xs0.length ++ xs0.drop ys.length)) (C' := (news.take (n * d.size) ++ C'.toList.drop (news.take (n * d.size)).length).toArray) (w' := Γ.w.setRow b (news.take (n * d.size) ++ C'.toList.drop (news.take (n * d.size)).length).toArray) hσi rfl rfl c1 p2 (setRow_heap Γ.w b C' _ T'' _ p2)
                    (by
                      have hle : us.length ≤ C'.size := by rw [← Array.length_toList (xs := C'), p3]; simp
                      simp only [List.size_toArray, List.length_append, List.length_drop, Array.length_toList]; omega) ⟨rfl, by rw [hlist, hlen2]⟩ (fun k hk => setRow_other Γ.w b k _ hk) (by simp [World.setRow]) rfl rfl rfl (fun Γ' hle hw hok hβ =>
                      .inr ⟨b, _, T'', by rw [hβ]; exact c1, by unfold blk; rw [hw]; exact setRow_heap Γ.w b C' _ T'' _ p2, qin hle.ok ⟨news.take (n * d.size) ++ us.drop (n * d.size), rest, by
                        rw [hnn, p3, List.drop_append_of_le_length hnm, List.append_assoc], by rw [hlist]; exact hrep⟩, by simpa [hok] using p5⟩)
                exact ⟨.int .i64 (n : Nat), Γ', .inl (by rw [k1]; simp [hrun]), by
                  rw [val_int], k5, by rw [k2]; rfl, k4, k6⟩
          · simp at h
        · simp at h
      · simp at h
end ops
end
end Go.AV
end
section
set_option linter.unusedVariables false
set_option linter.unusedSimpArgs false
namespace Go.AV
open Go Go.RowKit
def OptVal (Γ : Ctx) : Option AV → Option Value → Prop
  | none, none => True
  | some v, some u => v.val Γ u
  | _, _ => False
theorem OptVal.none' {Γ : Ctx} {o : Option Value} (h : OptVal Γ none o) : o = none := by cases o <;> simp_all [OptVal]
theorem OptVal.some' {Γ : Ctx} {v : AV} {o : Option Value} (h : OptVal Γ (some v) o) : ∃ u, o = some u ∧ v.val Γ u := by cases o <;> simp_all [OptVal]
section
variable {P : Program} {E : Env}
section ops
variable {w0 : Base} {sp : List (Nat × Obj)} {Γ : Ctx} {a : Act} {rv : Operand → Option AV} {σ : Look} {ρ : Type} {r : ρ}
theorem rep_cut {w : World} {ok : Nat → Prop} {t : Ty} {xs : List t.den} {a : Option Addr} {n cap l h : Nat} (hr : (Ty.slice t).rep w ok xs [.slice a n cap]) (hl : l ≤ h) (hh : h ≤ xs.length) :
    (Ty.slice t).rep w ok ((xs.take h).drop l) [.slice (if cap = l then a else a.map (·.add (l * t.size))) (h - l) (cap - l)] := by
  obtain ⟨a', cap', e, hc, hcells⟩ := hr
  simp only [List.cons.injEq, Value.slice.injEq, and_true] at e
  obtain ⟨rfl, rfl, rfl⟩ := e
  have hlen : ((xs.take h).drop l).length = h - l := by simp; omega
  refine ⟨_, cap - l, by rw [hlen], by rw [hlen]; omega, fun h0 => ?_⟩
  rw [hlen] at h0
  obtain ⟨b, o, rfl, hok, hf⟩ := hcells (by omega)
  refine ⟨b, o + l * t.size, ?_, hok, fun i hi => ?_⟩
  · rw [if_neg (by omega)]
    simp [Addr.add_mid]
  · rw [hlen] at hi
    obtain ⟨us, h1, h2⟩ := hf (l + i) (by omega)
    refine ⟨us, ?_, ?_⟩
    · rw [List.getD_eq_getElem?_getD] at h1 ⊢
      rwa [List.getElem?_drop, List.getElem?_take_of_lt (by omega)]
    · rw [show o + l * t.size + i * t.size = o + (l + i) * t.size by rw [Nat.add_mul]; omega]
      exact h2
theorem q4t {T : TypeId} (hu : P.underlying T = some .string) (s : ByteArray) (lo hi : Option Value) (l h : Nat)
    (hlo : (lo = none ∧ l = 0) ∨ ∃ k, lo = some (.int k (l : Int))) (hhi : (hi = none ∧ h = s.size) ∨ ∃ k, hi = some (.int k (h : Int))) (hl : l ≤ h) (hh : h ≤ s.size) (w : World) :
    (Instr.sliceAt T (.string s) lo hi none).run P w = .ok (.string (s.extract l h)) w := by
  have hb1 : ∀ k (i y : Nat) code, i ≤ y → (Instr.sliceBound (.int k (i : Int)) y code).run P w = .ok i w := by
    intro k i y code hi
    rw [run_sliceBound w k i y code (by omega) (by omega)]
    simp
  simp only [Instr.sliceAt, Sem.run_bind, run_underlying hu, Result.andThen_ok, Instr.slice, Instr.sliceBounds, Sem.run_pure]
  rcases hlo with ⟨rfl, rfl⟩ | ⟨k1, rfl⟩ <;> rcases hhi with ⟨rfl, rfl⟩ | ⟨k2, rfl⟩
  · simp
  · simp [hb1 k2 h s.size _ hh]
  · simp [hb1 k1 l _ _ hl]
  · simp [hb1 k2 h s.size _ hh, hb1 k1 l h _ hl]
theorem q2b {o : Option AV} {o' : Option Value} {d n : Int} (hv : (match o with
      | none => some d
      | some (.dat (.int _) n) => some n
      | _ => none) = some n) (h : OptVal Γ o o') (h0 : 0 ≤ n) : (o' = none ∧ (n.toNat : Int) = d) ∨ ∃ k, o' = some (.int k (n.toNat : Int)) := by
  split at hv
  · simp only [Option.some.injEq] at hv
    subst hv
    exact .inl ⟨h.none', by omega⟩
  · rename_i k m
    simp only [Option.some.injEq] at hv
    subst hv
    obtain ⟨u, rfl, hu⟩ := h.some'
    rw [val_int.1 hu]
    exact .inr ⟨k, by congr 2; exact (Int.toNat_of_nonneg h0).symm⟩
  · simp at hv
theorem pub_slice (hg : Good w0 sp Γ) (hσ : LookOk Γ σ) {t : Ty} {x : AV} {u : Value} (hx : x.val Γ u) {xs : List t.den} (hxs : asList σ t x = some xs) :
    ∃ Γ' ad cap, u = .slice ad xs.length cap ∧ Γ'.w = Γ.w ∧ Γ'.lb = Γ.lb ∧ Γ'.σ = updE Γ.σ (pubRows σ (rowOf x)) ∧ Γ.le Γ' ∧ Good w0 sp Γ' ∧ (Ty.slice t).rep Γ'.w Γ'.ok xs [.slice ad xs.length cap] := by
  obtain ⟨Γ', g1, g2, g3, g4, g5, g6, g7⟩ := pubRows_good (rowOf x) hg hσ
  obtain ⟨ad, cap, news, rfl, _, _⟩ := asList_cells hg hσ hx hxs
  refine ⟨Γ', ad, cap, rfl, g1, g3, g4, g5, g6, ?_⟩
  have hx' : x.val Γ' (.slice ad xs.length cap) := AV.val_mono g5 x hx
  unfold asList at hxs
  split at hxs
  · rename_i t' xs'
    obtain ⟨e, he'⟩ := castTy_some hxs
    simp only [Ty.slice.injEq] at e
    subst e
    simp only at he'
    subst he'
    obtain ⟨vs, h1, h2⟩ := hx'
    obtain ⟨a1, c1, e1, e2⟩ := h1
    subst e1
    simp only [Ty.isAgg, Bool.false_eq_true, if_false, List.headD_cons] at h2
    rw [h2]
    exact ⟨a1, c1, rfl, e2⟩
  · simp only [Option.some.injEq] at hxs
    subst hxs
    have h2 : Value.slice ad 0 cap = .slice none 0 0 := hx'
    simp only [Value.slice.injEq] at h2
    obtain ⟨rfl, _, rfl⟩ := h2
    exact ⟨none, 0, rfl, Nat.le_refl _, fun h => absurd h (by simp)⟩
  · rename_i i
    split at hxs
    · rename_i p t' xs' hi'
      obtain ⟨e, he'⟩ := castTy_some hxs
      simp only [Ty.slice.injEq] at e
      subst e
      simp only at he'
      subst he'
      exact own_data g6 (g7 _ p t' xs' hi' (.inl (by simp [rowOf]))) hx'
    · simp at hxs
  · simp at hxs
theorem sliceK_done (hD : TabOk P E) (hg : Good w0 sp Γ) (hσ : LookOk Γ σ) {nx : Nat} (hf : Fresh Γ nx) {T : TypeId} {x : AV} {u : Value} (hx : x.val Γ u) {lo hi mx : Option AV} {lo' hi' mx' : Option Value}
    (hlo : OptVal Γ lo lo') (hhi : OptVal Γ hi hi') (hmx : OptVal Γ mx mx') {q : AV → Eff → Option ρ}
    (h : sliceK E T σ nx x lo hi mx q = some r) : ∃ y e, q y e = some r ∧ Done w0 sp Γ ((do pure (.value (← Instr.sliceAt T u lo' hi' mx')) : Sem Next).run P Γ.w) y e := by
  unfold sliceK at h
  split at h
  ·
    rename_i km m
    obtain ⟨u3, rfl, hu3⟩ := hmx.some'
    rw [val_int.1 hu3]
    split at h
    · rename_i t by_ kh hn he
      have hlo0 := hlo.none'
      obtain ⟨u2, rfl, hu2⟩ := hhi.some'
      rw [val_int.1 hu2]
      subst hlo0
      split at h
      · rename_i h00
        simp only [Bool.and_eq_true, decide_eq_true_eq] at h00
        obtain ⟨rfl, rfl⟩ := h00
        obtain ⟨e0, d, hu, hd, hty, _⟩ := qoi hD he
        have key : (asList σ t x).isSome = true → q (.own nx) [(nx, .row false t [])] = some r → ∃ y e, q y e = some r ∧ Done w0 sp Γ ((do pure (.value (← Instr.sliceAt T u none (some (.int kh 0)) (some (.int km 0)))) : Sem Next).run P Γ.w) y e := by
          intro hs hq
          obtain ⟨ys, hys⟩ := Option.isSome_iff_exists.1 hs
          obtain ⟨ad, cap, news, rfl, _, _⟩ := asList_cells hg hσ hx hys
          obtain ⟨Γ', h1, h2, h3, h4, h5, h6, h7⟩ := hg.bornNil hf t
          have hb : ∀ (k : IntKind) (y : Nat) code, (Instr.sliceBound (.int k 0) y code).run P Γ.w = .ok 0 Γ.w := fun k y code => by
            rw [run_sliceBound Γ.w k 0 y code (by omega) (by omega)]; rfl
          refine ⟨_, _, hq, Done.own (u := .slice ad 0 0) ?_ ?_ h6 h2 h4 h7⟩
          · rw [h1]
            simp only [Instr.sliceAt, Sem.run_bind, run_underlying hu, Result.andThen_ok, Instr.slice, Instr.sliceBounds, Sem.run_pure]
            simp [hb, run_sizeOf_k (hD e0 d hd)]
          · unfold Ctx.ownv
            rw [h2]
            simp only [updN_same]
            exact ⟨ad, 0, rfl, Nat.le_refl _, .inl rfl⟩
        split at h
        · split at h
          · exact key (by assumption) h
          · simp at h
        · split at h
          · exact key (by assumption) h
          · simp at h
        · split at h
          · exact key (by assumption) h
          · simp at h
        · simp at h
      · simp at h
    · simp at h
  · simp at h
  · have hm0 := hmx.none'
    subst hm0
    simp only at h
    split at h
    ·
      rename_i s l0 hk hl0
      split at h
      · rename_i h0 hh0
        obtain ⟨hb, h⟩ := cond'_some h
        simp only [decide_eq_true_eq] at hb
        obtain ⟨b1, b2, b3⟩ := hb
        rw [val_str.1 hx]
        have hu : P.underlying T = some .string := qlc hD hk
        refine ⟨_, _, h, Done.quiet hg (u := .string (s.extract l0.toNat h0.toNat)) (q4t hu s lo' hi' l0.toNat h0.toNat ?_ ?_ (by omega) (by omega) Γ.w) (val_str.2 rfl)⟩
        · rcases q2b hl0 hlo b1 with ⟨q1, q2⟩ | q
          · exact .inl ⟨q1, by omega⟩
          · exact .inr q
        · rcases q2b hh0 hhi (by omega) with ⟨q1, q2⟩ | q
          · exact .inl ⟨q1, by omega⟩
          · exact .inr q
      · simp at h
    ·
      rename_i x _ _ e0 l0 hk hl0
      split at h
      · simp at h
      · rename_i t by_ he
        split at h
        · simp at h
        · rename_i xs hxs
          split at h
          · rename_i h0 hh0
            obtain ⟨hb, h⟩ := cond'_some h
            simp only [decide_eq_true_eq] at hb
            obtain ⟨b1, b2, b3⟩ := hb
            obtain ⟨e1, d, hu, hd, hty, _⟩ := qoi hD he
            have hsz : d.size = t.size := ((hD e1 d hd).ty t hty).1.symm
            obtain ⟨Γ', ad, cap, rfl, g1, g3, g4, g5, g6, hrep⟩ := pub_slice hg hσ hx hxs
            have hcap : xs.length ≤ cap := by
              obtain ⟨_, _, e, hc, _⟩ := hrep
              simp only [List.cons.injEq, Value.slice.injEq, and_true] at e
              obtain ⟨_, _, rfl⟩ := e
              exact hc
            have hrun := run_slice_of hu (hD e1 d hd) ad xs.length cap lo' hi' l0.toNat h0.toNat (by
              rcases q2b hl0 hlo b1 with ⟨q1, q2⟩ | q
              · exact .inl ⟨q1, by omega⟩
              · exact .inr q) (by
              rcases q2b hh0 hhi (by omega) with ⟨q1, q2⟩ | q
              · exact .inl ⟨q1, by omega⟩
              · exact .inr q) (by omega) (by omega) hcap Γ.w
            refine ⟨_, _, h, .slice (if cap = l0.toNat then ad else ad.map (·.add (l0.toNat * d.size))) (h0.toNat - l0.toNat) (cap - l0.toNat), Γ', .inl ?_, ?_, g5, g4, g3, g6⟩
            · rw [g1]
              simp only [Sem.run_bind, hrun, Result.andThen_ok, Sem.run_pure]
            · refine ⟨_, rep_cut (l := l0.toNat) (h := h0.toNat) hrep (by omega) (by omega), ?_⟩
              rw [hsz]
              rfl
          · simp at h
    · simp at h
end ops
end
end Go.AV
end
section
set_option linter.unusedVariables false
set_option linter.unusedSimpArgs false
namespace Go.AV
open Go Go.RowKit
section
variable {P : Program} {E : Env}
def EqSound (P : Program) (E : Env) (D : Nat) (T : TypeId) (t : Ty) : Prop :=
  (∃ d, E.D T = some d ∧ d.ty = some t) ∧ ∀ (w : World) (ok : Nat → Prop) (x y : t.den) (us vs : List Value) (r : Bool), t.rep w ok x us → t.rep w ok y vs → t.eqv x y = some r →
    (Op.equalIn D T (mk t.isAgg us) (mk t.isAgg vs)).run P w = .ok r w
theorem EqSound.flds (hD : TabOk P E) {D : Nat} {f : TypeId → Ty → Bool} (hf : ∀ T t, f T t = true → EqSound P E D T t) :
    ∀ (fs : List Field) (t : Ty) (acc : Nat), (∀ f ∈ fs, f.name ≠ "_") → eqFlds f acc (fs.map fun f => (f.offset, f.type)) t = true →
    ∀ (w : World) (ok : Nat → Prop) (x y : t.den) (us vs pre pre' : List Value) (xs ys : Array Value) (r : Bool), t.rep w ok x us → t.rep w ok y vs → t.eqv x y = some r →
      xs.toList = pre ++ us → ys.toList = pre' ++ vs → pre.length = acc → pre'.length = acc → (Op.eqFields D xs ys fs).run P w = .ok r w
  | [], t, acc, _, h, w, ok, x, y, us, vs, pre, pre', xs, ys, r, hx, hy, hr, _, _, _, _ => by
    cases t <;> simp [eqFlds] at h
    simp only [Ty.eqv, Option.some.injEq] at hr
    subst hr
    simp [Op.eqFields]
  | g :: fs, t, acc, hn, h, w, ok, x, y, us, vs, pre, pre', xs, ys, r, hx, hy, hr, ex, ey, lx, ly => by
    cases t with
    | prod a b =>
      simp only [List.map_cons, eqFlds, Bool.and_eq_true, beq_iff_eq] at h
      obtain ⟨⟨h1, h2⟩, h3⟩ := h
      obtain ⟨⟨d, hd, hty⟩, hs⟩ := hf _ _ h2
      obtain ⟨u1, u2, rfl, k1, k2⟩ := hx
      obtain ⟨v1, v2, rfl, m1, m2⟩ := hy
      simp only [Ty.eqv] at hr
      split at hr
      · rename_i p q hp hq
        simp only [Option.some.injEq] at hr
        have hT := hD _ _ hd
        obtain ⟨q1, q2, _, _⟩ := hT.ty a hty
        have e1 : ∀ {z : a.den} {l : List Value}, a.rep w ok z l → l.length = d.size := fun hz => (Ty.rep_len a hz).trans q1
        have e2 : ∀ {z : a.den} {l : List Value}, a.rep w ok z l → (d.isAgg = false → l.length = 1) := fun {z l} hz hf => by
          have hh : (AV.dat a z).isAgg = false := by simp only [AV.isAgg]; exact q2.trans hf
          have := AV.size_notAgg hh
          simp only [AV.shp, Ty.size_shp] at this
          rw [Ty.rep_len a hz, this]
        have p1 := run_part_k hT w (cs := xs) (pre := pre) (us := u1) (post := u2) (by rw [ex, List.append_assoc]) (e1 k1) (e2 k1)
        have p2 := run_part_k hT w (cs := ys) (pre := pre') (us := v1) (post := v2) (by rw [ey, List.append_assoc]) (e1 m1) (e2 m1)
        rw [lx] at p1
        rw [ly] at p2
        rw [← q2] at p1 p2
        have p3 := hs w ok x.1 y.1 u1 v1 p k1 m1 hp
        have hne : g.name ≠ "_" := hn g (by simp)
        simp only [Op.eqFields, hne, ne_eq, not_false_eq_true, if_true, Sem.run_bind, h1, p1, p2, p3, Result.andThen_ok]
        cases p with
        | false => simp [← hr]
        | true =>
          have ih := EqSound.flds hD hf fs b (acc + a.size) (fun f hf => hn f (by simp [hf])) h3 w ok x.2 y.2 u2 v2 (pre ++ u1) (pre' ++ v1) xs ys q k2 m2 hq (by rw [ex, List.append_assoc]) (by rw [ey, List.append_assoc])
            (by rw [List.length_append, lx, Ty.rep_len a k1]) (by rw [List.length_append, ly, Ty.rep_len a m1])
          simp only [Bool.not_true, Bool.false_eq_true, if_false, ih, ← hr, Bool.true_and]
      · simp at hr
    | _ => simp [eqFlds] at h
theorem eqv_arr_cons {t : Ty} {xs ys : List t.den} {is : List Nat} {i : Nat} {r : Bool} (h : (i :: is).foldr (fun i r => match t.eqv (xs.getD i t.dflt) (ys.getD i t.dflt), r with
    | some p, some q => some (p && q)
    | _, _ => none) (some true) = some r) : ∃ p q, t.eqv (xs.getD i t.dflt) (ys.getD i t.dflt) = some p ∧ is.foldr (fun i r => match t.eqv (xs.getD i t.dflt) (ys.getD i t.dflt), r with
    | some p, some q => some (p && q)
    | _, _ => none) (some true) = some q ∧ r = (p && q) := by
  rw [List.foldr_cons] at h
  split at h
  · rename_i p q h1 h2
    simp only [Option.some.injEq] at h
    exact ⟨p, q, h1, h2, h.symm⟩
  · simp at h
theorem EqSound.items (hD : TabOk P E) {D : Nat} {e : TypeId} {t : Ty} (hf : EqSound P E D e t) {n : Nat} (w : World) (ok : Nat → Prop) (xs ys : List t.den) (uf vf : Nat → List Value)
    (hu : ∀ i, i < n → t.rep w ok (xs.getD i t.dflt) (uf i)) (hv : ∀ i, i < n → t.rep w ok (ys.getD i t.dflt) (vf i)) (cx cy : Array Value) (ex : cx.toList = (List.range n).flatMap uf) (ey : cy.toList = (List.range n).flatMap vf) :
    ∀ (is : List Nat) (r : Bool), (∀ i ∈ is, i < n) → is.foldr (fun i r => match t.eqv (xs.getD i t.dflt) (ys.getD i t.dflt), r with
      | some p, some q => some (p && q)
      | _, _ => none) (some true) = some r → (Op.eqItems D e t.size cx cy is).run P w = .ok r w
  | [], r, _, h => by simp only [List.foldr_nil, Option.some.injEq] at h; subst h; simp [Op.eqItems]
  | i :: is, r, hi, h => by
    obtain ⟨p, q, h1, h2, rfl⟩ := eqv_arr_cons h
    obtain ⟨⟨d, hd, hty⟩, hs⟩ := hf
    have hT := hD _ _ hd
    obtain ⟨q1, q2, _, _⟩ := hT.ty t hty
    have hin := hi i (by simp)
    have e1 : ∀ {z : t.den} {l : List Value}, t.rep w ok z l → l.length = d.size := fun hz => (Ty.rep_len t hz).trans q1
    have e2 : ∀ {z : t.den} {l : List Value}, t.rep w ok z l → (d.isAgg = false → l.length = 1) := fun {z l} hz hf => by
      have hh : (AV.dat t z).isAgg = false := by simp only [AV.isAgg]; exact q2.trans hf
      have := AV.size_notAgg hh
      simp only [AV.shp, Ty.size_shp] at this
      rw [Ty.rep_len t hz, this]
    obtain ⟨a1, a2, a3, a4⟩ := split_flatMap uf (fun i hi => Ty.rep_len t (hu i hi)) hin
    obtain ⟨b1, b2, b3, b4⟩ := split_flatMap vf (fun i hi => Ty.rep_len t (hv i hi)) hin
    have p1 := run_part_k hT w (cs := cx) (pre := a1) (us := uf i) (post := a2) (by rw [ex, a3]) (e1 (hu i hin)) (e2 (hu i hin))
    have p2 := run_part_k hT w (cs := cy) (pre := b1) (us := vf i) (post := b2) (by rw [ey, b3]) (e1 (hv i hin)) (e2 (hv i hin))
    rw [a4, ← q2] at p1
    rw [b4, ← q2] at p2
    have p3 := hs w ok _ _ _ _ p (hu i hin) (hv i hin) h1
    simp only [Op.eqItems, Sem.run_bind, p1, p2, p3, Result.andThen_ok]
    cases p with
    | false => simp
    | true =>
      have ih := EqSound.items hD ⟨⟨d, hd, hty⟩, hs⟩ w ok xs ys uf vf hu hv cx cy ex ey is q (fun j hj => hi j (by simp [hj])) h2
      simp [ih]
theorem eqTy_sound (hD : TabOk P E) : ∀ (n N : Nat) (T : TypeId) (t : Ty), eqTy E n T t = true → EqSound P E (N + n) T t
  | 0, N, T, t, h => by simp [eqTy] at h
  | n + 1, N, T, t, h => by
    simp only [eqTy] at h
    split at h
    · simp at h
    · rename_i d hd
      simp only [Bool.and_eq_true, beq_iff_eq] at h
      obtain ⟨hty, h⟩ := h
      refine ⟨⟨d, hd, hty⟩, fun w ok x y us vs r hx hy hr => ?_⟩
      have hT := hD _ _ hd
      have hk := hT.k
      have ht := hT.tyk t hty
      split at h
      · rename_i k k' hdk
        simp only [tyFits] at ht
        rw [hdk] at ht hk
        simp only [K.int.injEq] at ht
        subst ht
        simp only [Ty.rep] at hx hy
        subst hx; subst hy
        simp only [Ty.eqv, Option.some.injEq] at hr
        subst hr
        exact run_equalIn_int w (N + n) T k k x y hk
      · rename_i hdk
        rw [hdk] at hk
        simp only [Ty.rep] at hx hy
        subst hx; subst hy
        simp only [Ty.eqv, Option.some.injEq] at hr
        subst hr
        exact run_equalIn_bool' w (N + n) T x y hk
      · rename_i hdk
        rw [hdk] at hk
        simp only [Ty.rep] at hx hy
        subst hx; subst hy
        simp only [Ty.eqv, Option.some.injEq] at hr
        subst hr
        exact run_equalIn_string w (N + n) T x y hk
      · rename_i t _ _ flds hdk
        simp only [Bool.and_eq_true] at h
        rw [hdk] at hk
        obtain ⟨fs, hu, hfl, hnm⟩ := hk
        have hst := (hT.eqs h.1).2
        have hfo : P.fieldsOf T = fs := by simp [Program.fieldsOf, hu]
        have hagg : t.isAgg = true := by
          rw [(hT.ty t hty).2.1, TI.isAgg, hdk]
        rw [hagg]
        have hh := run_equalIn_struct w (N + n) T us.toArray vs.toArray (P := P) (by rw [hfo]; exact hu) hst
        have := EqSound.flds hD (D := N + n) (f := eqTy E n) (fun T t h => eqTy_sound hD n N T t h) fs.toList t 0 (fun f hf => hnm f (by simpa using hf)) (by rw [hfl]; exact h.2) w ok x y us vs [] [] us.toArray vs.toArray r hx hy hr (by simp) (by simp) rfl rfl
        rw [hfo] at hh
        rw [show N + (n + 1) = N + n + 1 from rfl]
        simpa [mk] using hh.trans this
      · rename_i m e m' t' hdk
        simp only [Bool.and_eq_true, beq_iff_eq] at h
        obtain ⟨⟨h1, rfl⟩, h3⟩ := h
        rw [hdk] at hk
        have hs := eqTy_sound hD n N e t' h3
        obtain ⟨⟨de, hde, htye⟩, _⟩ := hs
        obtain ⟨i, z, hi, hsz, _⟩ := (hD e de hde).info
        have hc : P.cellsOf e = t'.size := by
          simp only [Program.cellsOf, hi, Option.map_some, Option.getD_some, hsz]
          exact ((hD e de hde).ty t' htye).1.symm
        have hh := run_equalIn_array w (N + n) us.toArray vs.toArray (P := P) (t := T) hk hi
        obtain ⟨lx, uf, rfl, hu⟩ := hx
        obtain ⟨ly, vf, rfl, hv⟩ := hy
        have := EqSound.items hD ⟨⟨de, hde, htye⟩, ‹_›⟩ w ok x y uf vf hu hv ((List.range m).flatMap uf).toArray ((List.range m).flatMap vf).toArray (by simp) (by simp) (List.range m) r (fun i hi => by simpa using hi) hr
        rw [hc, this] at hh
        rw [show N + (n + 1) = N + n + 1 from rfl]
        simpa [mk, Ty.isAgg] using hh
      · simp at h
theorem to_boxable : ∀ (t : Ty) {v : AV} {x : t.den}, v.to t = some x → boxable v = true := by
  intro t v x h
  cases v <;> first | rfl | (cases t <;> simp [AV.to] at h)
theorem to_isAgg : ∀ (t : Ty) {v : AV} {x : t.den}, v.to t = some x → v.isAgg = t.isAgg := by
  intro t v x h
  cases v with
  | dat t' y =>
    have : t' = t := by
      cases t <;> simp only [AV.to] at h <;> (split at h; · assumption
                                              · simp at h)
    simp [AV.isAgg, this]
  | agg xs => cases t <;> first | rfl | simp [AV.to] at h
  | nils => cases t <;> first | rfl | simp [AV.to] at h
  | _ => cases t <;> simp [AV.to] at h
theorem val_to {Γ : Ctx} {t : Ty} {v : AV} {x : t.den} {u : Value} (h : v.to t = some x) (hv : v.val Γ u) : ∃ us, u = mk t.isAgg us ∧ t.rep Γ.w Γ.ok x us := by
  obtain ⟨us, h1, h2⟩ := (AV.val_mk v (to_boxable t h)).1 hv
  rw [to_isAgg t h] at h2
  exact ⟨us, h2, AV.to_cells t h h1⟩
section ops
variable {w0 : Base} {sp : List (Nat × Obj)} {Γ : Ctx} {a : Act} {rv : Operand → Option AV} {σ : Look} {ρ : Type} {r : ρ}
theorem nil_eql {T : TypeId} {ox oy : Operand} {u v : Value} {b : Bool} {w : World} (h : (do eqGuard .eql T ox oy u v; binOp .eql T u v : Sem Value) = (do pure (.bool (← Op.equal T u v)))) (he : (Op.equal T u v).run P w = .ok b w) :
    (do eqGuard .eql T ox oy u v; binOp .eql T u v : Sem Value).run P w = .ok (.bool b) w := by
  rw [h, Sem.run_bind, he]; rfl
theorem nil_neq {T : TypeId} {ox oy : Operand} {u v : Value} {b : Bool} {w : World} (h : (do eqGuard .neq T ox oy u v; binOp .neq T u v : Sem Value) = (do pure (.bool (!(← Op.equal T u v))))) (he : (Op.equal T u v).run P w = .ok b w) :
    (do eqGuard .neq T ox oy u v; binOp .neq T u v : Sem Value).run P w = .ok (.bool !b) w := by
  rw [h, Sem.run_bind, he]; rfl
theorem run_equalIn_pointer_nil' {w : World} (d : Nat) (T : TypeId) (ad : Option Addr) {e : TypeId} (h : P.underlying T = some (.pointer e)) : (Op.equalIn (d + 1) T (.pointer ad) (.pointer none)).run P w = .ok ad.isNone w := by
  cases ad <;> simp [Op.equalIn, run_underlying h]
theorem run_equal_pointer_nil' {w : World} (T : TypeId) (ad : Option Addr) {e : TypeId} (h : P.underlying T = some (.pointer e)) : (Op.equal T (.pointer ad) (.pointer none)).run P w = .ok ad.isNone w :=
  run_equalIn_pointer_nil' 9999 T ad h
theorem run_equalIn_func_nil {w : World} (d : Nat) (T : TypeId) {a b c : _} (h : P.underlying T = some (.func a b c)) : (Op.equalIn (d + 1) T .nilFunc .nilFunc).run P w = .ok true w := by
  simp [Op.equalIn, run_underlying h]
theorem run_equalIn_func_nil' {w : World} (d : Nat) (T : TypeId) (f : Fn) (fs cs : Array Value) {a b c : _} (h : P.underlying T = some (.func a b c)) : (Op.equalIn (d + 1) T (.func f fs cs) .nilFunc).run P w = .ok false w := by
  simp [Op.equalIn, run_underlying h]
theorem run_equal_func_nil {w : World} (T : TypeId) {a b c : _} (h : P.underlying T = some (.func a b c)) : (Op.equal T .nilFunc .nilFunc).run P w = .ok true w := run_equalIn_func_nil 9999 T h
theorem run_equal_func_nil' {w : World} (T : TypeId) (f : Fn) (fs cs : Array Value) {a b c : _} (h : P.underlying T = some (.func a b c)) : (Op.equal T (.func f fs cs) .nilFunc).run P w = .ok false w := run_equalIn_func_nil' 9999 T f fs cs h
theorem q4s (hD : TabOk P E) (hg : Good w0 sp Γ) (hσ : LookOk Γ σ) {T : TypeId} {x y : AV} {u v : Value} (hx : x.val Γ u) (hy : y.val Γ v) {b : Bool} (h : same2 E T σ x y = some b) (ox oy : Operand) :
    (do eqGuard .eql T ox oy u v; binOp .eql T u v : Sem Value).run P Γ.w = .ok (.bool b) Γ.w ∧ (do eqGuard .neq T ox oy u v; binOp .neq T u v : Sem Value).run P Γ.w = .ok (.bool !b) Γ.w := by
  unfold same2 at h
  split at h
  · simp at h
  · rename_i d hd
    have hT := hD _ _ hd
    have hk := hT.k
    split at h
    · rename_i hn
      unfold nilOf at hn
      split at hn
      ·
        rename_i e hdk
        rw [hdk] at hk h
        have hv : v = .slice none 0 0 := hy
        subst hv
        have hsome : ∃ ad n cap, u = .slice ad n cap ∧ ad.isNone = b := by
          simp only [isNil, isNilS] at h
          split at h <;> try simp only [Option.some.injEq, reduceCtorEq] at h
          · subst h
            exact ⟨none, 0, 0, hx, rfl⟩
          · rename_i t xs
            split at h
            · simp at h
            · simp only [Option.some.injEq] at h
              subst h
              obtain ⟨ad, cap, rfl, _, hc⟩ := val_slice hx
              rename_i hne _
              obtain ⟨b, o, rfl, _⟩ := hc (by
                rcases Nat.eq_zero_or_pos (List.length xs) with h0 | h0
                · exact absurd (List.eq_nil_of_length_eq_zero h0) (by intro hh; exact hne hh)
                · exact h0)
              exact ⟨_, _, _, rfl, rfl⟩
          · split at h
            · rename_i hi
              simp only [Option.some.injEq] at h
              subst h
              have hx' : Γ.ownv _ u := hx
              unfold Ctx.ownv at hx'
              rw [hσ _ _ hi] at hx'
              obtain ⟨ad, cap, rfl, hl, hc⟩ := hx'
              rcases hc with rfl | ⟨b, C, T, h1, h2, _⟩
              · simp at hl
              · subst h2
                exact ⟨_, _, _, rfl, rfl⟩
            · simp at h
        obtain ⟨ad, n, cap, rfl, rfl⟩ := hsome
        have hk' : P.underlying T = some (.slice e) := hk
        exact ⟨nil_eql rfl (run_equal_slice_nil Γ.w T e ad n cap hk'), nil_neq rfl (run_equal_slice_nil Γ.w T e ad n cap hk')⟩
      ·
        rename_i hdk
        rw [hdk] at hk h
        have hv : v = .pointer none := hy
        subst hv
        have hsome : ∃ ad, u = .pointer ad ∧ ad.isNone = b := by
          simp only [isNil, isNilP] at h
          split at h <;> try simp only [Option.some.injEq, reduceCtorEq] at h
          · subst h
            exact ⟨none, hx, rfl⟩
          · subst h
            obtain ⟨b, o, us, rfl, _⟩ := hx
            exact ⟨_, rfl, rfl⟩
          · split at h
            · rename_i hi
              simp only [Option.some.injEq] at h
              subst h
              have hx' : Γ.locv _ _ u := hx
              unfold Ctx.locv at hx'
              rw [hσ _ _ hi] at hx'
              obtain ⟨b, o, _, rfl, _⟩ := hx'
              exact ⟨_, rfl, rfl⟩
            · rename_i hi
              simp only [Option.some.injEq] at h
              subst h
              have hx' : Γ.locv _ _ u := hx
              unfold Ctx.locv at hx'
              rw [hσ _ _ hi] at hx'
              obtain ⟨b, o, _, rfl, _⟩ := hx'
              exact ⟨_, rfl, rfl⟩
            · simp at h
        obtain ⟨ad, rfl, rfl⟩ := hsome
        obtain ⟨e, hk'⟩ := hk
        exact ⟨nil_eql rfl (run_equal_pointer_nil' T ad hk'), nil_neq rfl (run_equal_pointer_nil' T ad hk')⟩
      ·
        rename_i hdk
        rw [hdk] at hk h
        have hv : v = .nilFunc := hy
        subst hv
        obtain ⟨e1, e2, e3, hk'⟩ := hk
        simp only [isNil, isNilF] at h
        split at h <;> simp only [Option.some.injEq, reduceCtorEq] at h
        · subst h
          have hu : u = .nilFunc := hx
          subst hu
          exact ⟨nil_eql rfl (run_equal_func_nil T hk'), nil_neq rfl (run_equal_func_nil T hk')⟩
        · subst h
          obtain ⟨us, ws, rfl, _⟩ := hx
          exact ⟨nil_eql rfl (run_equal_func_nil' T _ _ _ hk'), nil_neq rfl (run_equal_func_nil' T _ _ _ hk')⟩
        · subst h
          obtain ⟨b, rfl, _⟩ := hx
          exact ⟨nil_eql rfl (run_equal_func_nil' T _ _ _ hk'), nil_neq rfl (run_equal_func_nil' T _ _ _ hk')⟩
      · simp at hn
    · split at h
      · rename_i t hty
        split at h
        · rename_i hc
          simp only [Bool.and_eq_true, Bool.or_eq_true, beq_iff_eq] at hc
          obtain ⟨⟨heq, hc1⟩, hc2⟩ := hc
          split at h
          · rename_i xa ya h1 h2
            obtain ⟨us, rfl, hu⟩ := val_to h1 hx
            obtain ⟨vs, rfl, hv⟩ := val_to h2 hy
            have hs := (eqTy_sound hD 8 9992 T t hc1).2 Γ.w Γ.ok xa ya us vs b hu hv h
            rcases hc2 with hc2 | rfl
            · rw [hc2] at hs ⊢
              simp only [mk, if_true] at hs ⊢
              have hgd := fun op => run_eqGuard_agg (P := P) Γ.w op T ox oy us.toArray vs.toArray (hT.eqs heq).1
              exact ⟨by simp [hgd, run_eql_struct, hs], by simp [hgd, run_neq_struct, hs]⟩
            · simp only [Ty.rep] at hu hv
              subst hu; subst hv
              simp only [mk, Ty.isAgg, Bool.false_eq_true, if_false, List.headD_cons] at hs ⊢
              exact ⟨by simp [eqGuard, binOp, Op.equal, Op.maxDepth, hs], by simp [eqGuard, binOp, Op.equal, Op.maxDepth, hs]⟩
          · simp at h
        · simp at h
      · simp at h
theorem guard_int {op : BinOp} {T : TypeId} {ox oy : Operand} {k k' : IntKind} {m n : Int} {w : World} : (do eqGuard op T ox oy (.int k m) (.int k' n); binOp op T (.int k m) (.int k' n) : Sem Value).run P w = (binOp op T (.int k m) (.int k' n)).run P w := by
  cases op <;> rfl
theorem guard_str {op : BinOp} {T : TypeId} {ox oy : Operand} {m n : ByteArray} {w : World} : (do eqGuard op T ox oy (.string m) (.string n); binOp op T (.string m) (.string n) : Sem Value).run P w = (binOp op T (.string m) (.string n)).run P w := by
  cases op <;> rfl
theorem binOp_int {op : BinOp} {T : TypeId} {k : IntKind} {m n : Int} : (op = .shl → False) → (op = .shr → False) → binOp op T (.int k m) (.int k n) = (match op with
      | .add | .sub | .mul => Op.intArith op k m n
      | .quo | .rem => Op.intDiv op k m n
      | .and | .or | .xor | .andNot => Op.intBits op k m n
      | _ => Op.intCmp op m n) := by
  intro h1 h2
  cases op <;> first | exact absurd rfl h1 | exact absurd rfl h2 | simp [binOp]
theorem binOp_str {op : BinOp} {T : TypeId} {m n : ByteArray} : binOp op T (.string m) (.string n) = Op.stringOp op m n := by
  cases op <;> simp [binOp]
theorem binK_done (hD : TabOk P E) (hg : Good w0 sp Γ) (hσ : LookOk Γ σ) {op : BinOp} {T : TypeId} {x y : AV} {u v : Value} (hx : x.val Γ u) (hy : y.val Γ v) {q : AV → Option ρ} (h : binK E op T σ x y q = some r) (ox oy : Operand) :
    ∃ z u', q z = some r ∧ z.val Γ u' ∧ (do eqGuard op T ox oy u v; binOp op T u v : Sem Value).run P Γ.w = .ok u' Γ.w := by
  unfold binK at h
  split at h
  · rw [val_int.1 hx, val_int.1 hy]
    obtain ⟨hb, h⟩ := cond'_some' h
    simp only [decide_eq_false_iff_not] at hb
    exact ⟨_, _, h, val_int.2 rfl, by rw [guard_int]; simp [binOp, Op.shift, hb]⟩
  · rw [val_int.1 hx, val_int.1 hy]
    obtain ⟨hb, h⟩ := cond'_some' h
    simp only [decide_eq_false_iff_not] at hb
    exact ⟨_, _, h, val_int.2 rfl, by rw [guard_int]; simp [binOp, Op.shift, hb]⟩
  · rw [val_int.1 hx, val_int.1 hy]
    split at h
    · rename_i hk
      subst hk
      obtain ⟨z, u', h1, h2, h3⟩ := binI_done (P := P) hg h
      refine ⟨z, u', h1, h2, ?_⟩
      rw [guard_int, ← h3, binOp_int (by assumption) (by assumption)]
      cases op <;> rfl
    · simp at h
  · rw [val_str.1 hx, val_str.1 hy]
    obtain ⟨z, u', h1, h2, h3⟩ := binS_done (P := P) hg h
    refine ⟨z, u', h1, h2, ?_⟩
    rw [guard_str, ← h3, binOp_str]
  · split at h
    · rename_i b hb
      exact ⟨_, _, h, val_bool.2 rfl, (q4s hD hg hσ hx hy hb ox oy).1⟩
    · simp at h
  · split at h
    · rename_i b hb
      exact ⟨_, _, h, val_bool.2 rfl, (q4s hD hg hσ hx hy hb ox oy).2⟩
    · simp at h
  · simp at h
end ops
end
end Go.AV
end
section
set_option linter.unusedVariables false
set_option linter.unusedSimpArgs false
namespace Go.AV
open Go Go.RowKit
section
variable {P : Program} {E : Env}
section ops
variable {w0 : Base} {sp : List (Nat × Obj)} {Γ : Ctx} {a : Act} {rv : Operand → Option AV} {σ : Look} {ρ : Type} {r : ρ}
theorem toR_shp {σ : Look} : ∀ (t : Ty) {v : AV} {x : t.den} {l : List Nat}, v.toR σ t = some (x, l) → v.shp = t.shp ∧ v.isAgg = t.isAgg := by
  have hdat : ∀ (t t' : Ty) (x' : t'.den) (x : t.den) (l : List Nat), (AV.dat t' x').toR σ t = some (x, l) → t' = t := by
    intro t t' x' x l h
    have h' : (match castTy t t' x' with | some y => some (y, ([] : List Nat)) | none => none) = some (x, l) := by
      cases t <;> exact h
    split at h'
    · rename_i y hy
      exact (castTy_some hy).1
    · simp at h'
  intro t
  induction t with
  | prod a b iha ihb =>
    intro v x l h
    cases v with
    | dat t' x' => have := hdat _ _ _ _ _ h; subst this; exact ⟨rfl, rfl⟩
    | agg xs =>
      cases xs with
      | nil => simp [AV.toR] at h
      | cons v vs =>
        simp only [AV.toR] at h
        split at h
        · rename_i y l1 z l2 h1 h2
          have e1 := (iha h1).1
          have e2 := (ihb h2).1
          simp only [AV.shp] at e2
          exact ⟨by simp [AV.shp, AV.shpL, Ty.shp, e1, e2], rfl⟩
        · simp at h
    | _ => simp [AV.toR] at h
  | unit =>
    intro v x l h
    cases v with
    | dat t' x' => have := hdat _ _ _ _ _ h; subst this; exact ⟨rfl, rfl⟩
    | agg xs =>
      cases xs with
      | nil => exact ⟨rfl, rfl⟩
      | cons v vs => simp [AV.toR] at h
    | _ => simp [AV.toR] at h
  | slice t ih =>
    intro v x l h
    cases v with
    | dat t' x' => have := hdat _ _ _ _ _ h; subst this; exact ⟨rfl, rfl⟩
    | nils => exact ⟨rfl, rfl⟩
    | own i => exact ⟨rfl, rfl⟩
    | _ => simp [AV.toR] at h
  | _ =>
    intro v x l h
    cases v with
    | dat t' x' => have := hdat _ _ _ _ _ h; subst this; exact ⟨rfl, rfl⟩
    | _ => simp [AV.toR] at h
theorem pub_ref (hg : Good w0 sp Γ) {i : Nat} {e : Ent} {p : List Step} {t : Ty} {x : t.den} {u : Value} (hσ : Γ.σ i = some e) (hp : e.isPub = true) (hx : e.get p = some (.dat t x)) (hu : Γ.locv i p u) :
    (AV.ref t x).val Γ u := by
  obtain ⟨b, o, h1, rfl, h3⟩ := locv_get hσ hu hx
  obtain ⟨b', C, T, pre, us, post, q1, q2, q3, q4, q5⟩ := ent_get (hg.ent i e hσ) hx h3
  rw [h1] at q1
  simp only [Option.some.injEq] at q1
  subst q1
  subst q4
  refine ⟨b, pre.length, us, rfl, ?_, q5, cellsAt_blk q2 q3⟩
  have he := hg.ent i e hσ
  cases e with
  | unborn => simp [Ent.isPub] at hp
  | dead => simp [Ent.isPub] at hp
  | box pub v =>
    obtain ⟨b', C', T', k1, k2, k3, k4⟩ := he
    rw [h1] at k1
    simp only [Option.some.injEq] at k1
    subst k1
    exact k4.1 hp
  | row pub t xs =>
    rcases he with ⟨_, k⟩ | ⟨b', C', T', k1, k2, k3, k4⟩
    · rw [h1] at k; simp at k
    · rw [h1] at k1
      simp only [Option.some.injEq] at k1
      subst k1
      exact k4.1 hp
theorem val_boxable_cells {v : AV} (hb : boxable v = true) {u : Value} (h : v.val Γ u) : ∃ vs, v.cells Γ vs ∧ u = mk v.isAgg vs := (AV.val_mk v hb).1 h
theorem qxb (hg : Good w0 sp Γ) (hσ : LookOk Γ σ) {a : Bool × Ty} {v : AV} {x : a.2.den} {e : Eff} (h : handOver σ a v = some (x, e)) {u : Value} (hv : v.val Γ u) :
    ∃ Γ', Γ'.w = Γ.w ∧ Γ'.lb = Γ.lb ∧ Γ'.σ = updE Γ.σ e ∧ Γ.le Γ' ∧ Good w0 sp Γ' ∧ (back1 a x).val Γ' u := by
  unfold handOver at h
  obtain ⟨ptr, t⟩ := a
  simp only at h
  cases ptr with
  | true =>
    simp only [if_true] at h
    split at h
    · rename_i t' x'
      split at h
      · rename_i y hy
        obtain ⟨rfl, rfl⟩ := castTy_some hy
        simp only [Option.some.injEq, Prod.mk.injEq] at h
        obtain ⟨rfl, rfl⟩ := h
        exact ⟨Γ, rfl, rfl, rfl, Ctx.le.refl Γ, hg, hv⟩
      · simp at h
    · rename_i i p
      split at h
      · rename_i e0 hi
        split at h
        · rename_i hpub
          split at h
          · rename_i t' x' hx
            split at h
            · rename_i y hy
              obtain ⟨rfl, rfl⟩ := castTy_some hy
              simp only [Option.some.injEq, Prod.mk.injEq] at h
              obtain ⟨rfl, rfl⟩ := h
              exact ⟨Γ, rfl, rfl, rfl, Ctx.le.refl Γ, hg, pub_ref hg (hσ _ _ hi) hpub hx hv⟩
            · simp at h
          · simp at h
        · split at h
          · rename_i u0 _
            split at h
            · rename_i x' l hx
              simp only [Option.some.injEq, Prod.mk.injEq] at h
              obtain ⟨rfl, rfl⟩ := h
              obtain ⟨Γ1, a1, a2, a3, a4, a5, a6, a7⟩ := pubRows_good l hg hσ
              have hσ1 : Γ1.σ i = some (.box false u0) := by
                rw [a4]
                have key : ∀ (l : List Nat) (τ ς : Look), (∀ j y, τ j = some y → ς j = some y) → τ i = some (.box false u0) → updE ς (pubRows τ l) i = some (.box false u0) := by
                  intro l
                  induction l with
                  | nil => exact fun τ ς hle hh => hle _ _ hh
                  | cons j l ih =>
                    intro τ ς hle hh
                    simp only [pubRows, updE_append]
                    refine ih _ _ ?_ ?_
                    · intro k y hk
                      unfold pubRow at hk ⊢
                      split at hk
                      · simp only [updE] at hk ⊢
                        by_cases hkj : k = j
                        · subst hkj; simpa using hk
                        · rw [updN_ne _ _ hkj] at hk ⊢; exact hle _ _ hk
                      · exact hle _ _ hk
                    · unfold pubRow
                      split
                      · rename_i t0 xs0 hj
                        simp only [updE]
                        rw [updN_ne _ _ (by rintro rfl; rw [hh] at hj; simp at hj)]
                        exact hh
                      · exact hh
                exact key l σ Γ.σ hσ hi
              obtain ⟨e1, e2⟩ := toR_shp t hx
              obtain ⟨Γ2, b1, b2, b3, b4, b5, b6, b7⟩ := a6.publish (e' := .box true (.dat t x')) hσ1 rfl rfl (by simp [Ent.same, e1, AV.shp]) (by simp) (fun Γ' hle hw hβ hok => by
                obtain ⟨b, C, T, q1, q2, q3, q4⟩ := a6.ent i _ hσ1
                exact ⟨b, C, T, by rw [hβ]; exact q1, by rw [hw]; exact q2, Ty.rep_mono hle.ok t (toR_rep a6 t hx q3 (fun j hj p t' xs hh => a7 j p t' xs hh (.inl hj))), by simp [hok, q1]⟩)
              refine ⟨Γ2, b1.trans a1, b4.trans a3, by rw [b2, a4, updE_append]; rfl, a5.trans b6, b7, ?_⟩
              have hv2 : (AV.loc i []).val Γ2 u := AV.val_mono (a5.trans b6) _ hv
              exact pub_ref b7 (e := .box true (.dat t x')) (p := []) (by rw [b2]; simp) rfl (by simp [Ent.get, AV.get]; cases t <;> rfl) hv2
            · simp at h
          · simp at h
      · simp at h
    · simp at h
  | false =>
    simp only [Bool.false_eq_true, if_false] at h
    split at h
    · rename_i x' l hx
      simp only [Option.some.injEq, Prod.mk.injEq] at h
      obtain ⟨rfl, rfl⟩ := h
      obtain ⟨Γ1, a1, a2, a3, a4, a5, a6, a7⟩ := pubRows_good l hg hσ
      refine ⟨Γ1, a1, a3, a4, a5, a6, ?_⟩
      obtain ⟨vs, h1, h2⟩ := val_boxable_cells (toR_boxable hx) (AV.val_mono a5 _ hv)
      have hr := toR_rep a6 t hx h1 (fun j hj p t' xs hh => a7 j p t' xs hh (.inl hj))
      refine ⟨vs, hr, ?_⟩
      rw [h2, (toR_shp t hx).2]
      rfl
    · simp at h
theorem q0f : ∀ (A : List (Bool × Ty)) {Γ : Ctx} {σ : Look} (hg : Good w0 sp Γ) (hσ : LookOk Γ σ) {vs : List AV} {x : denL A} {e : Eff} (h : handAll σ A vs = some (x, e)) {us : List Value} (hv : AV.ones Γ vs us),
    ∃ Γ', Γ'.w = Γ.w ∧ Γ'.lb = Γ.lb ∧ Γ'.σ = updE Γ.σ e ∧ Γ.le Γ' ∧ Good w0 sp Γ' ∧ AV.ones Γ' (backL A x) us
  | [], Γ, σ, hg, hσ, vs, x, e, h, us, hv => by
    cases vs with
    | cons v vs => simp [handAll] at h
    | nil =>
      simp only [handAll, Option.some.injEq, Prod.mk.injEq] at h
      obtain ⟨rfl, rfl⟩ := h
      exact ⟨Γ, rfl, rfl, rfl, Ctx.le.refl Γ, hg, hv⟩
  | a :: A, Γ, σ, hg, hσ, vs, x, e, h, us, hv => by
    cases vs with
    | nil => simp [handAll] at h
    | cons v vs =>
      simp only [handAll] at h
      split at h
      · rename_i x1 e1 h1
        split at h
        · rename_i x2 e2 h2
          simp only [Option.some.injEq, Prod.mk.injEq] at h
          obtain ⟨rfl, rfl⟩ := h
          obtain ⟨u, us', rfl, hu, hus⟩ := hv
          obtain ⟨Γ1, a1, a2, a3, a4, a5, a6⟩ := qxb hg hσ h1 hu
          obtain ⟨Γ2, b1, b2, b3, b4, b5, b6⟩ := q0f A a5 (hσ.upd e1 a3) h2 (AV.ones_mono a4 vs hus)
          exact ⟨Γ2, b1.trans a1, b2.trans a2, by rw [b3, a3, updE_append], a4.trans b4, b5, u, us', rfl, AV.val_mono b4 _ a6, b6⟩
        · simp at h
      · simp at h
end ops
end
end Go.AV
end
section
set_option linter.unusedVariables false
set_option linter.unusedSimpArgs false
namespace Go.AV
open Go Go.RowKit
def Wide (F : Fence) : Prop := (∀ f, F.fn f) ∧ F.depth = none ∧ F.alive = false
def LeadsTo (F : Fence) (n : Nat) (P : Program) (R : Value → World → Prop) : Result Next → Prop
  | .ok (.value v) w => R v w
  | .ok (.enter f args) w => CallsIn F n P f args w fun
      | .returned v, w' => R v w'
      | _, _ => False
  | .ok (.row row args) w => RowsIn F n P row args w R
  | .ok (.round l f tmps assign body) w => RoundIn F n P l f tmps assign body w fun
      | .returned v, w' => R v w'
      | _, _ => False
  | _ => False
def bare (w : World) (ok : Nat → Prop) : Ctx := ⟨w, ok, fun _ => none, fun _ => none, []⟩
def FnSpec (P : Program) (gl : Nat → Option AV) (f : FuncId) (c : Ctr) : Prop :=
  ∀ (F : Fence) (n : Nat), Wide F → ∀ (w : World) (ok : Nat → Prop) (args : List Value) (x : denL c.A) (y : denL c.R), c.G x = some y → GlobOk gl w → (∀ b, ok b → b < w.heap.size) →
    AV.ones (bare w ok) (backL c.A x) args →
    LeadsTo F n P (fun v w' => Below w.heap.size w w' ∧ ∃ ok' : Nat → Prop, (∀ b, ok b → ok' b) ∧ (∀ b, ok' b → ok b ∨ w.heap.size ≤ b) ∧ (∀ b, ok' b → b < w'.heap.size) ∧ (back c.R y).val (bare w' ok') v)
      ((callFunc f args.toArray).run P w)
def PureOk (P : Program) (E : Env) (w : World) : Prop :=
  ∀ (ρ : Type) (r : ρ) (g : FuncId) (args : List AV) (es : List Ent) (q : AV → List Ent → Option ρ), E.pure ρ g args es q = some r →
  ∀ (F : Fence) (n : Nat), Wide F → ∀ (Γ0 : Ctx) (us : List Value), Below w.heap.size w Γ0.w → Γ0.lb = [] → (Γ0.σ = fun i => es[i]?) → Good ⟨Γ0.w, Γ0.ok, fun g => P.funcs[g]?⟩ [] Γ0 → AV.ones Γ0 args us →
    LeadsTo F n P (fun u w' => ∃ v τ, ∃ Γ' : Ctx, q v τ = some r ∧ Γ'.w = w' ∧ Γ'.lb = [] ∧ (Γ'.σ = fun i => τ[i]?) ∧ Good ⟨Γ0.w, Γ0.ok, fun g => P.funcs[g]?⟩ [] Γ' ∧ v.val Γ' u) ((callFunc g us.toArray).run P Γ0.w)
def SpecOk (P : Program) (gl : Nat → Option AV) (g : FuncId) (s : (Nat → Option Ent) → List AV → Option (Bool × AV × List (Nat × Ent))) : Prop :=
  ∀ (σ : Look) (args : List AV) (x : AV) (e : Eff), s σ args = some (true, x, e) →
  ∀ (F : Fence) (n : Nat), Wide F → ∀ (w0 : Base) (sp : List (Nat × Obj)) (Γ : Ctx) (us : List Value), GlobOk gl w0.w → Good w0 sp Γ → LookOk Γ σ → AV.ones Γ args us →
    LeadsTo F n P (fun u w' => ∃ Γ' : Ctx, Γ'.w = w' ∧ x.val Γ' u ∧ Γ.le Γ' ∧ Γ'.σ = updE Γ.σ e ∧ Γ'.lb = Γ.lb ∧ Good w0 sp Γ') ((callFunc g us.toArray).run P Γ.w)
def PureNat (E : Env) : Prop :=
  ∀ (ρ : Type) (g : FuncId) (args : List AV) (es : List Ent) (q : AV → List Ent → Option ρ), E.pure ρ g args es q = (E.pure (AV × List Ent) g args es fun v τ => some (v, τ)).bind fun p => q p.1 p.2
theorem GlobOk.below {gl : Nat → Option AV} {w w' : World} (h : GlobOk gl w) (hb : Below w.heap.size w w') : GlobOk gl w' := by
  intro g x hx
  obtain ⟨h1, h2, us, h3, h4, C, T, fz, h5, h6⟩ := h g x hx
  refine ⟨h1, Nat.lt_of_lt_of_le h2 hb.size, us, fun j hj => ?_, h4, C, T, fz, (hb.block g h2).trans h5, h6⟩
  rw [← h3 j hj]
  simp only [World.cell?]
  rw [hb.block g h2]
theorem arr_ints {w : World} {ok : Nat → Prop} {k : IntKind} {xs : List Int} {us : List Value} (h : (Ty.arr xs.length (.int k)).rep w ok xs us) : us = xs.map (Value.int k) := by
  obtain ⟨_, f, rfl, hf⟩ := h
  rw [List.flatMap_def]
  have e : (List.range xs.length).map f = (List.range xs.length).map (fun i => [Value.int k (xs.getD i (0 : Int))]) := by
    apply List.map_congr_left
    intro i hi
    exact hf i (List.mem_range.1 hi)
  rw [e]
  apply List.ext_getElem?
  intro i
  have e2 : ((List.range xs.length).map (fun i => [Value.int k (xs.getD i (0 : Int))])).flatten = (List.range xs.length).map (fun i => Value.int k (xs.getD i (0 : Int))) := by
    generalize List.range xs.length = l
    induction l with
    | nil => rfl
    | cons a l ih => simp only [List.map_cons, List.flatten_cons, ih, List.singleton_append]
  rw [e2]
  by_cases hi : i < xs.length
  · simp [hi, List.getD_eq_getElem?_getD]
  · simp [hi]
theorem LeadsTo.mono {F : Fence} {n : Nat} {P : Program} {R R' : Value → World → Prop} (hr : ∀ v w, R v w → R' v w) : ∀ {r : Result Next}, LeadsTo F n P R r → LeadsTo F n P R' r := by
  intro r h
  cases r with
  | halt x w => exact h
  | ok x w =>
    cases x <;> first | exact hr _ _ h | exact h.elim | skip
    · exact CallsIn.mono h (fun e w' he => by
        cases e <;> first | exact hr _ _ he | exact he)
    · exact RoundIn.mono h (fun e w' he => by
        cases e <;> first | exact hr _ _ he | exact he)
    · exact RowsIn.mono h hr
section
variable {P : Program} {E : Env}
section ops
variable {w0 : Base} {sp : List (Nat × Obj)} {Γ : Ctx} {a : Act} {rv : Operand → Option AV} {σ : Look} {ρ : Type} {r : ρ}
theorem back1_ctx {Γ Γ' : Ctx} (hw : Γ'.w = Γ.w) (hok : Γ'.ok = Γ.ok) (a : Bool × Ty) (x : a.2.den) {v : Value} (h : (back1 a x).val Γ v) : (back1 a x).val Γ' v := by
  obtain ⟨p, t⟩ := a
  cases p with
  | true =>
    obtain ⟨b, o, us, h1, h2, h3, h4⟩ := h
    exact ⟨b, o, us, h1, by rw [hok]; exact h2, by rw [hw, hok]; exact h3, by rw [hw]; exact h4⟩
  | false =>
    obtain ⟨vs, h1, h2⟩ := h
    exact ⟨vs, by rw [hw, hok]; exact h1, h2⟩
theorem backL_ctx {Γ Γ' : Ctx} (hw : Γ'.w = Γ.w) (hok : Γ'.ok = Γ.ok) : ∀ (A : List (Bool × Ty)) (x : denL A) {vs : List Value}, AV.ones Γ (backL A x) vs → AV.ones Γ' (backL A x) vs
  | [], _, _, h => h
  | a :: A, x, vs, ⟨u, v, e, h1, h2⟩ => ⟨u, v, e, back1_ctx hw hok a x.1 h1, backL_ctx hw hok A x.2 h2⟩
theorem back_ctx {Γ Γ' : Ctx} (hw : Γ'.w = Γ.w) (hok : Γ'.ok = Γ.ok) (R : List (Bool × Ty)) (y : denL R) {v : Value} (h : (back R y).val Γ v) : (back R y).val Γ' v := by
  match R, y, h with
  | [], y, ⟨vs, h1, h2⟩ => exact ⟨vs, h1, h2⟩
  | [a], y, h => exact back1_ctx hw hok a y.1 h
  | a :: b :: R, y, ⟨vs, h1, h2⟩ => exact ⟨vs, h1, backL_ctx hw hok (a :: b :: R) y h2⟩
theorem exec_build (ρ : Operand → Value) (dst ty pos after grd T) (parts : Array (Nat × Operand)) : execOp ρ ⟨dst, .build T parts, ty, pos, after, grd⟩ = (do pure (.value (← Instr.build T (parts.map fun p => (p.1, ρ p.2))))) := rfl
theorem exec_buildSlice (ρ : Operand → Value) (dst ty pos after grd T n) (parts : Array (Nat × Operand)) : execOp ρ ⟨dst, .buildSlice T n parts, ty, pos, after, grd⟩ = (do pure (.value (← Instr.buildSlice T n (parts.map fun p => (p.1, ρ p.2))))) := rfl
def Goes (w0 : Base) (sp : List (Nat × Obj)) (Γ : Ctx) (q : AV → Eff → Option ρ) (r : ρ) (next : Value → World → Prop) : Prop :=
  ∀ v e u Γ', q v e = some r → v.val Γ' u → Γ.le Γ' → Γ'.σ = updE Γ.σ e → Γ'.lb = Γ.lb → Good w0 sp Γ' → next u Γ'.w
theorem toArr {α β : Type} (f : α → β) (xs : Array α) : (xs.toList.map f).toArray = xs.map f := by
  apply Array.toList_inj.1
  simp
theorem builtinK_done (hD : TabOk P E) (hg : Good w0 sp Γ) (hσ : LookOk Γ σ) {nx : Nat} (hf : Fresh Γ nx) {b : Builtin} {Ts : List TypeId} {vs : List AV} {us : List Value} (ho : AV.ones Γ vs us) {q : AV → Eff → Option ρ}
    (h : builtinK E b Ts σ nx vs q = some r) (ty : TypeId) (cs : Array Bool) : ∃ v e, q v e = some r ∧ Done w0 sp Γ ((builtin b Ts.toArray ty cs us.toArray).run P Γ.w) v e := by
  unfold builtinK at h
  split at h
  · rename_i T x
    obtain ⟨u, us', rfl, hu, hus⟩ := ho
    rw [show us' = [] from hus]
    split at h
    · rename_i n hn
      exact ⟨_, _, h, Done.quiet hg (lenOf_done hD hg hσ hu hn _ rfl ty) (val_int.2 rfl)⟩
    · simp at h
  · rename_i T T' s x
    obtain ⟨u, us', rfl, hu, u2, us2, rfl, hu2, hus⟩ := ho
    rw [show us2 = [] from hus]
    split at h
    · rename_i hT
      subst hT
      exact append_done hD hg hσ hf hu hu2 h ty
    · simp at h
  · rename_i T T' s x
    obtain ⟨u, us', rfl, hu, u2, us2, rfl, hu2, hus⟩ := ho
    rw [show us2 = [] from hus]
    exact copy_done hD hg hσ hu hu2 h ty
  · rename_i k c vs
    obtain ⟨u, us', rfl, hu, hus⟩ := ho
    rw [val_int.1 hu]
    split at h
    · rename_i n hn
      exact ⟨_, _, h, Done.quiet hg (s := Builtin.max_ Ts.toArray ty (Value.int k c :: us').toArray) (foldI_done hg _ Builtin.max2 (fun k a b => rfl) hus hn) (val_int.2 rfl)⟩
    · simp at h
  · rename_i k c vs
    obtain ⟨u, us', rfl, hu, hus⟩ := ho
    rw [val_int.1 hu]
    split at h
    · rename_i n hn
      exact ⟨_, _, h, Done.quiet hg (s := Builtin.min_ Ts.toArray ty (Value.int k c :: us').toArray) (foldI_done hg _ Builtin.min2 (fun k a b => rfl) hus hn) (val_int.2 rfl)⟩
    · simp at h
  · simp at h
set_option maxHeartbeats 4000000 in
theorem sliceArr_done (hD : TabOk P E) (hg : Good w0 sp Γ) (hσ : LookOk Γ σ) {T e : TypeId} {n : Nat} {t : Ty} (hk : kOf E T = some (.arr n e)) (ht : tyOf E e = some t) {x : AV} {u : Value} {xs : (Ty.arr n t).den} {ef : Eff}
    (hx : handOver σ (true, .arr n t) x = some (xs, ef)) (hv : x.val Γ u) {lo' hi' mx' : Option Value} (h1 : lo' = none) (h2 : hi' = none) (h3 : mx' = none) {q : AV → Eff → Option ρ} (h : q (.dat (.slice t) xs) ef = some r) :
    ∃ y e, q y e = some r ∧ Done w0 sp Γ ((do pure (.value (← Instr.sliceAt T u lo' hi' mx')) : Sem Next).run P Γ.w) y e := by
  subst h1; subst h2; subst h3
  obtain ⟨Γ', a1, a2, a3, a4, a5, a6⟩ := qxb hg hσ hx hv
  obtain ⟨b, o, us, rfl, hok, ⟨hl, usf, rfl, hf⟩, hc⟩ := a6
  obtain ⟨d, hd, hty⟩ := q1b ht
  have hu : P.underlying T = some (.array n e) := qlc hD hk
  refine ⟨_, _, h, .slice (some ⟨b, o, none⟩) n n, Γ', .inl ?_, ?_, a4, a3, a2, a5⟩
  · rw [a1]
    have hz : (if n = 0 then (⟨b, o, none⟩ : Addr) else (⟨b, o, none⟩ : Addr).add (0 * d.size)) = ⟨b, o, none⟩ := by
      split
      · rfl
      · simp [Addr.add]
    simp only [Instr.sliceAt, Sem.run_bind, run_underlying hu, Result.andThen_ok, Instr.sureAddr, Instr.sliceBounds, Sem.run_pure, run_sizeOf_k (hD e d hd), hz, Nat.sub_zero]
  · refine ⟨[.slice (some ⟨b, o, none⟩) n n], ⟨some ⟨b, o, none⟩, n, by rw [hl], by rw [hl]; exact Nat.le_refl _, fun h0 => ⟨b, o, rfl, hok, fun i hi => ?_⟩⟩, rfl⟩
    have hi' : i < n := by rw [← hl]; exact hi
    refine ⟨usf i, hf i hi', ?_⟩
    obtain ⟨p1, p2, e1, e2⟩ := split_flatMap usf (fun i hi => Ty.rep_len t (hf i hi)) hi'
    intro k hk'
    have := hc (p1.length + k) (by rw [e1]; simp only [List.length_append]; omega)
    rw [e1, List.append_assoc, List.getElem?_append_right (by omega), Nat.add_sub_cancel_left, List.getElem?_append_left hk'] at this
    rw [← e2, Nat.add_assoc]
    exact this
theorem opK_done (hD : TabOk P E) (hG : GlobOk E.glob w0.w) (hg : Good w0 sp Γ) (ho : OpdOk Γ a rv) (hgl : ∀ g, rv (.global g) = none) (hσ : LookOk Γ σ) {nx : Nat} (hf : Fresh Γ nx) {o : Oper} {q : AV → Eff → Option ρ}
    (hc : ∀ c f, o.op = .call c → c.callee ≠ .value f) (h : opK E o.op rv σ nx q = some r) : ∃ v e, q v e = some r ∧ Done w0 sp Γ ((execOp a.eval o).run P Γ.w) v e := by
  obtain ⟨dst, op, ty, pos, after, grd⟩ := o
  simp only at h hc
  have hq : ∀ {s : Sem Value} {v : AV} {u : Value}, s.run P Γ.w = .ok u Γ.w → v.val Γ u → Done w0 sp Γ ((do pure (.value (← s)) : Sem Next).run P Γ.w) v [] := fun h hv => Done.quiet hg h hv
  cases op
  case move x =>
    simp only [opK] at h
    split at h
    · rename_i v hv
      exact ⟨_, _, h, _, Γ, .inl rfl, ho _ _ hv, Ctx.le.refl Γ, rfl, rfl, hg⟩
    · simp at h
  case assign x =>
    simp only [opK] at h
    split at h
    · rename_i v hv
      exact ⟨_, _, h, _, Γ, .inl rfl, ho _ _ hv, Ctx.le.refl Γ, rfl, rfl, hg⟩
    · simp at h
  case pick c x y =>
    simp only [opK] at h
    split at h
    · rename_i b va vb h1 h2 h3
      have hb := val_bool.1 (ho _ _ h1)
      cases b with
      | true => exact ⟨_, _, h, _, Γ, .inl (by simp [execOp, hb, asBool]), ho _ _ h2, Ctx.le.refl Γ, rfl, rfl, hg⟩
      | false => exact ⟨_, _, h, _, Γ, .inl (by simp [execOp, hb, asBool]), ho _ _ h3, Ctx.le.refl Γ, rfl, rfl, hg⟩
    · simp at h
  case alloc T =>
    simp only [opK] at h
    split at h
    · rename_i d hd
      exact ⟨_, _, h, alloc_done hD hg hf hd _ rfl⟩
    · simp at h
  case box T x =>
    simp only [opK] at h
    split at h
    · rename_i v hv
      split at h
      · rename_i hb
        exact ⟨_, _, h, box_done hg hf T (ho _ _ hv) hb⟩
      · simp at h
    · simp at h
  case build T parts =>
    simp only [opK] at h
    split at h
    · rename_i ps flds hp hk
      split at h
      · rename_i hc
        simp only [Bool.and_eq_true, List.all_eq_true, decide_eq_true_eq] at hc
        split at h
        · rename_i d hd
          split at h
          · rename_i ys hy
            split at h
            · rename_i l hl
              refine ⟨_, _, h, ?_⟩
              rw [exec_build]
              exact buildStruct_done hD hg hk hd hy (by rw [Array.toList_map]; exact parts_mapO ho hp) hc.1 hc.2 hl
            · simp at h
          · simp at h
        · simp at h
      · simp at h
    · rename_i ps n e hp hk
      split at h
      · rename_i t n' t' he hT
        split at h
        · rename_i hc
          simp only [Bool.and_eq_true, List.all_eq_true, decide_eq_true_eq] at hc
          obtain ⟨rfl, rfl, hc1, hc2⟩ := hc
          split at h
          · rename_i l m hl
            refine ⟨_, _, h, ?_⟩
            rw [exec_build]
            exact buildArr_done hD hg hσ hk he hT (by rw [Array.toList_map]; exact parts_mapO ho hp) hc1 hc2 hl
          · simp at h
        · simp at h
      · simp at h
    · simp at h
  case buildSlice T n parts =>
    simp only [opK] at h
    split at h
    · rename_i ps t by_ hp he
      split at h
      · rename_i hc
        simp only [Bool.and_eq_true, List.all_eq_true, decide_eq_true_eq] at hc
        obtain ⟨⟨⟨hc1, hc2⟩, hc3⟩, hc4⟩ := hc
        split at h
        · rename_i l m hl
          refine ⟨_, _, h, ?_⟩
          rw [exec_buildSlice]
          exact buildSlice_done hD hg hσ hf he hc3 hc4 (by rw [Array.toList_map]; exact parts_mapO ho hp) hc1 hc2 hl
        · simp at h
      · simp at h
    · simp at h
  case load T x =>
    simp only [opK] at h
    obtain ⟨v, h1, h2⟩ := loadK_done (q := fun x => q x []) hD hG hg ho hσ hgl h
    exact ⟨_, _, h1, h2⟩
  case store T x y =>
    simp only [opK] at h
    split at h
    · rename_i d i p v hd hx hv
      split at h
      · rename_i hc
        simp only [Bool.and_eq_true, decide_eq_true_eq] at hc
        split at h
        · rename_i e he
          split at h
          · rename_i e' he'
            exact ⟨_, _, h, store_done hD hg hσ hd (ho _ _ hx) (ho _ _ hv) hc.1 hc.2 he he'⟩
          · simp at h
        · simp at h
      · simp at h
    · simp at h
  case nilCheck x =>
    simp only [opK] at h
    split at h
    · rename_i i p hx
      have hv := ho _ _ hx
      have hv' : Γ.locv i p (a.eval x) := hv
      have key : (∃ b o, a.eval x = .pointer (some ⟨b, o, none⟩)) → q (.loc i p) [] = some r → ∃ v e, q v e = some r ∧ Done w0 sp Γ ((execOp a.eval ⟨dst, .nilCheck x, ty, pos, after, grd⟩).run P Γ.w) v e := by
        rintro ⟨b, o, e⟩ h
        exact ⟨_, _, h, a.eval x, Γ, .inl (by simp [execOp, e]), hv, Ctx.le.refl Γ, rfl, rfl, hg⟩
      split at h
      · rename_i hi
        refine key ?_ h
        unfold Ctx.locv at hv'
        rw [hσ _ _ hi] at hv'
        obtain ⟨b, o, _, e, _⟩ := hv'
        exact ⟨b, o, e⟩
      · rename_i hi
        refine key ?_ h
        unfold Ctx.locv at hv'
        rw [hσ _ _ hi] at hv'
        obtain ⟨b, o, _, e, _⟩ := hv'
        exact ⟨b, o, e⟩
      · simp at h
    · rename_i t y hx
      have hv := ho _ _ hx
      refine ⟨_, _, h, a.eval x, Γ, .inl ?_, hv, Ctx.le.refl Γ, rfl, rfl, hg⟩
      obtain ⟨b, o, us, e, _⟩ := hv
      simp [execOp, e]
    · rename_i f fs cs hx
      have hv := ho _ _ hx
      refine ⟨_, _, h, a.eval x, Γ, .inl ?_, hv, Ctx.le.refl Γ, rfl, rfl, hg⟩
      obtain ⟨us, ws, e, _⟩ := hv
      simp [execOp, e]
    · simp at h
  case binOp op T x y c =>
    simp only [opK] at h
    split at h
    · rename_i vx vy hx hy
      obtain ⟨z, u, h1, h2, h3⟩ := binK_done (P := P) (q := fun z => q z []) hD hg hσ (ho _ _ hx) (ho _ _ hy) h x y
      exact ⟨_, _, h1, hq h3 h2⟩
    · simp at h
  case unOp op T x =>
    cases op <;> simp only [opK] at h <;> try (exfalso; simp at h; done)
    · split at h
      · rename_i k n hx
        refine ⟨_, _, h, hq (s := Op.unary .neg (a.eval x)) (u := .int k (k.wrap (0 - n))) ?_ (val_int.2 rfl)⟩
        rw [val_int.1 (ho _ _ hx)]
        rfl
      · simp at h
    · split at h
      · rename_i b hx
        refine ⟨_, _, h, hq (s := Op.unary .not (a.eval x)) (u := .bool !b) ?_ (val_bool.2 rfl)⟩
        rw [val_bool.1 (ho _ _ hx)]
        rfl
      · simp at h
  case convert S T x =>
    simp only [opK] at h
    split at h
    · rename_i k0 k k1 n hS hT hx
      refine ⟨_, _, h, hq (s := convert S T (a.eval x)) (u := .int k (k.wrap n)) ?_ (val_int.2 rfl)⟩
      have h1 : P.underlying S = some (.int k0) := qlc hD hS
      have h2 : P.underlying T = some (.int k) := qlc hD hT
      rw [val_int.1 (ho _ _ hx)]
      simp [convert, run_underlying h1, run_underlying h2, Conv.intToInt]
    · rename_i b hS hT hx
      refine ⟨_, _, h, hq (s := convert S T (a.eval x)) (u := .string b) ?_ (val_str.2 rfl)⟩
      have h1 : P.underlying S = some .string := qlc hD hS
      have h2 : P.underlying T = some .string := qlc hD hT
      rw [val_str.1 (ho _ _ hx)]
      simp [convert, run_underlying h1, run_underlying h2]
    · rename_i e vx hS hT hx
      split at h
      · rename_i xs he hl
        have h1 : P.underlying S = some (.slice e) := qlc hD hS
        have h2 : P.underlying T = some .string := qlc hD hT
        have h3 : P.underlying e = some (.int .u8) := qlc hD he
        obtain ⟨ad, cap, news, hv, hr, hcells⟩ := asList_cells hg hσ (ho _ _ hx) hl
        refine ⟨_, _, h, hq (s := convert S T (a.eval x)) (u := .string (bytesOf xs)) ?_ (val_str.2 rfl)⟩
        rw [hv, run_convert_bytes_string _ _ _ _ _ _ _ h1 h3 h2]
        have hnews : news = xs.map (Value.int .u8) := arr_ints hr
        cases xs with
        | nil =>
          cases ad with
          | none => simp [Conv.bytesToString, bytesOf]
          | some ad => exact run_bytesToString _ _ _ _ [] (run_loadCells_list (P := P) Γ.w ad [] (fun j v hv => by simp at hv))
        | cons y ys =>
          obtain ⟨b, o, rfl, hc⟩ := hcells (by simp)
          refine run_bytesToString _ _ _ _ (y :: ys) ?_
          have := run_loadCells_list (P := P) Γ.w ⟨b, o, none⟩ news (fun j v hv => by
            rw [Addr.add_mid, hc j (List.getElem?_eq_some_iff.1 hv).1, hv])
          rw [hnews, List.length_map] at this
          exact this
      · simp at h
    · simp at h
  case sliceToArrayPointer T x =>
    simp only [opK] at h
    split at h
    · rename_i n e t xs hT hx
      split at h
      · rename_i t' he
        split at h
        · rename_i hc
          simp only [Bool.and_eq_true, decide_eq_true_eq, bne_iff_ne] at hc
          obtain ⟨rfl, hn⟩ := hc
          obtain ⟨hb, h⟩ := cond'_some h
          simp only [decide_eq_true_eq] at hb
          have hu : P.underlying T = some (.array n e) := qlc hD hT
          have hx' := ho _ _ hx
          obtain ⟨ad, cap, hv, hl, hc⟩ := val_slice hx'
          have hpos : 0 < List.length xs := by omega
          obtain ⟨b, o, rfl, hok, _⟩ := hc hpos
          obtain ⟨ad', cap', news, hv', hr, hcells⟩ := asList_cells (σ := σ) hg hσ (t := t) hx' (ys := xs) (by simp [asList, castTy])
          rw [hv] at hv'
          simp only [Value.slice.injEq] at hv'
          obtain ⟨rfl, _, rfl⟩ := hv'
          obtain ⟨b', o', e1, hce⟩ := hcells hpos
          simp only [Option.some.injEq, Addr.mk.injEq] at e1
          obtain ⟨rfl, rfl, _⟩ := e1
          refine ⟨_, _, h, hq (s := Instr.arrayAt T (a.eval x)) (u := .pointer (some ⟨b, o, none⟩)) (by rw [hv]; exact run_arrayAt Γ.w T e n _ _ _ hu hb) ⟨b, o, news.take (n * t.size), rfl, hok, ?_, ?_⟩⟩
          · have := arr_take n hb hr
            have e : (List.take n xs).length = n := by simp; omega
            rw [e] at this
            exact this
          · intro j hj
            rw [List.getElem?_take_of_lt (by simp at hj; omega)]
            exact hce j (by simp at hj; omega)
        · simp at h
      · simp at h
    · simp at h
  case makeFunc fn fs cs =>
    cases fn with
    | func f => ?_
    | _ => exfalso; simp [opK] at h
    simp only [opK] at h
    split at h
    · rename_i vs us h1 h2
      have m1 := mapO_ones ho h1
      have m2 := mapO_ones ho h2
      exact ⟨_, _, h, hq (s := Instr.makeFunc (.func f) (fs.map a.eval) (cs.map a.eval)) (u := .func (.func f) (fs.map a.eval) (cs.map a.eval)) rfl ⟨_, _, by rw [toArr, toArr], m1, m2⟩⟩
    · simp at h
  case makeSlice T l c =>
    simp only [opK] at h
    split at h
    · rename_i t by_ k1 l0 k2 c0 he hl hc
      obtain ⟨hb, h⟩ := cond'_some h
      simp only [decide_eq_true_eq] at hb
      refine ⟨_, _, h, ?_⟩
      have := makeSlice_done hD hg hf he (kl := k1) (kc := k2) hb.1 hb.2.1 hb.2.2.1 hb.2.2.2
      rw [← val_int.1 (ho _ _ hl), ← val_int.1 (ho _ _ hc)] at this
      exact this
    · simp at h
  case slice T x lo hi mx =>
    simp only [opK] at h
    have key : ∀ (o : Option Operand) (l : List AV), mapO rv o.toList = some l → OptVal Γ l.head? (o.map a.eval) := by
      intro o l ho'
      cases o with
      | none =>
        simp only [Option.toList_none, mapO, Option.some.injEq] at ho'
        subst ho'
        trivial
      | some y =>
        simp only [Option.toList_some, mapO] at ho'
        split at ho'
        · rename_i z zs h1 h2
          simp only [Option.some.injEq] at h2 ho'
          subst h2; subst ho'
          exact ho _ _ h1
        · simp at ho'
    split at h
    · rename_i vx vlo vhi vmx h1 h2 h3 h4
      split at h
      · rename_i n e hk
        split at h
        · rename_i t hl2 hl3 hl4 ht
          split at h
          · rename_i xs ef hx
            have k2 := key _ _ h2
            have k3 := key _ _ h3
            have k4 := key _ _ h4
            rw [hl2] at k2
            rw [hl3] at k3
            rw [hl4] at k4
            exact sliceArr_done hD hg hσ hk ht hx (ho _ _ h1) k2.none' k3.none' k4.none' h
          · simp at h
        · simp at h
      · exact sliceK_done hD hg hσ hf (ho _ _ h1) (key _ _ h2) (key _ _ h3) (key _ _ h4) h
    · simp at h
  case fieldAddr T x f =>
    simp only [opK] at h
    split at h
    · rename_i i p hx
      split at h
      · rename_i e he
        split at h
        · rename_i u hu
          split at h
          · rename_i hf
            exact ⟨_, _, h, fieldAddr_loc hD hg hσ (ho _ _ hx) he hu hf⟩
          · simp at h
        · simp at h
      · simp at h
    · rename_i t y hx
      split at h
      · rename_i t' z hz
        split at h
        · rename_i hf
          exact ⟨_, _, h, fieldAddr_ref hD hg (ho _ _ hx) hz hf⟩
        · simp at h
      · simp at h
    · simp at h
  case field T x f =>
    simp only [opK] at h
    split at h
    · rename_i u hu
      split at h
      · rename_i y hy
        split at h
        · rename_i hc
          simp only [Bool.and_eq_true] at hc
          exact ⟨_, _, h, field_done hD hg (ho _ _ hu) hy hc.1.1 hc.1.2 hc.2⟩
        · simp at h
      · simp at h
    · simp at h
  case indexAddr T x ix =>
    simp only [opK] at h
    split at h
    · rename_i vx vi h1 h2
      obtain ⟨y, k1, k2⟩ := indexAddrK_done (q := fun z => q z []) hD hg hσ (ho _ _ h1) (ho _ _ h2) h
      exact ⟨_, _, k1, k2⟩
    · simp at h
  case index T x ix =>
    simp only [opK] at h
    split at h
    · rename_i vx vi h1 h2
      obtain ⟨y, k1, k2⟩ := indexK_done (q := fun z => q z []) hD hg (ho _ _ h1) (ho _ _ h2) h
      exact ⟨_, _, k1, k2⟩
    · simp at h
  case extract x i =>
    simp only [opK] at h
    split at h
    · rename_i xs hx
      split at h
      · rename_i y hy
        obtain ⟨vs, e, hv⟩ := ho _ _ hx
        obtain ⟨u, h1, h2⟩ := ones_get hv hy
        refine ⟨_, _, h, hq (s := Instr.extract (a.eval x) i) (u := u) ?_ h2⟩
        rw [e]
        simp [Instr.extract, h1]
      · simp at h
    · simp at h
  case call c =>
    obtain ⟨callee, args, aty⟩ := c
    cases callee with
    | value f => exact absurd rfl (hc _ f rfl)
    | invoke x nm => simp [opK] at h
    | builtin b =>
      simp only [opK] at h
      split at h
      · rename_i vs b' hv hb'
        simp only [Callee.builtin.injEq] at hb'
        subst hb'
        have hh := fun cs => builtinK_done hD hg hσ hf (mapO_ones ho hv) h ty cs
        simp only [toArr, Array.toArray_toList] at hh
        exact hh _
      · rename_i hb'
        simp at hb'
      · simp at h
  all_goals (exfalso; simp [opK] at h)
end ops
end
end Go.AV
end
section
set_option linter.unusedVariables false
set_option linter.unusedSimpArgs false
namespace Go.AV
open Go Go.RowKit
theorem posGo_some (k : Nat) : ∀ (l : List Nat) (n i : Nat), posGo k l n = some i → ∃ m, i = n + m ∧ l[m]? = some k
  | [], n, i, h => by simp [posGo] at h
  | x :: xs, n, i, h => by
    simp only [posGo] at h
    split at h
    · rename_i hx
      simp only [Option.some.injEq] at h
      exact ⟨0, by omega, by simp [Nat.eq_of_beq_eq_true hx]⟩
    · obtain ⟨m, h1, h2⟩ := posGo_some k xs (n + 1) i h
      exact ⟨m + 1, by omega, by simpa using h2⟩
theorem posIn_some {keep : List Nat} {k i : Nat} (h : posIn keep k = some i) : keep[i]? = some k := by
  obtain ⟨m, h1, h2⟩ := posGo_some k keep 0 i h
  rw [h1, Nat.zero_add]; exact h2
mutual
theorem ren_shp (f : Nat → Option Nat) (n : Nat) : ∀ (v : AV), (v.ren f n).shp = v.shp
  | .dat t x => rfl
  | .agg xs => by simp only [AV.ren, AV.shp]; exact renL_shp f n xs
  | .tup xs => rfl
  | .loc i p => by simp only [AV.ren]; split <;> rfl
  | .own i => by simp only [AV.ren]; split <;> rfl
  | .ref t x => rfl
  | .nils => rfl
  | .nilp => rfl
  | .nilf => rfl
  | .fn g fs cs => rfl
  | .yld l => by simp only [AV.ren]; split <;> rfl
  | .junk => rfl
theorem renL_shp (f : Nat → Option Nat) (n : Nat) : ∀ (xs : List AV), AV.shpL (AV.renL f n xs) = AV.shpL xs
  | [] => rfl
  | x :: xs => by simp only [AV.renL, AV.shpL]; rw [ren_shp f n x, renL_shp f n xs]
end
structure Ren0 (f : Nat → Option Nat) (n : Nat) (Γ Γ' : Ctx) : Prop where
  w : Γ'.w = Γ.w
  ok : Γ'.ok = Γ.ok
  lb : ∀ l b, l < n → Γ.lb[l]? = some b → Γ'.lb[l]? = some b
  fwd : ∀ k i, f k = some i → Γ'.β i = Γ.β k ∧ Γ'.σ i = (Γ.σ k).map (Ent.map (AV.ren f n))
section
variable {f : Nat → Option Nat} {n : Nat} {Γ Γ' : Ctx}
theorem map_off (e : Ent) (p : List Step) : (Ent.map (AV.ren f n) e).off p = e.off p := by
  cases e <;> simp [Ent.map, Ent.off, ren_shp]
theorem Ren0.locv (h : Ren0 f n Γ Γ') {k i : Nat} (hi : f k = some i) {p : List Step} {v : Value} (hv : Γ.locv k p v) : Γ'.locv i p v := by
  obtain ⟨h1, h2⟩ := h.fwd k i hi
  unfold Ctx.locv at hv ⊢
  rw [h1, h2]
  cases hs : Γ.σ k with
  | none => rw [hs] at hv; exact hv.elim
  | some e =>
    rw [hs] at hv
    cases e with
    | unborn => exact hv
    | dead => exact hv
    | box pub x =>
      obtain ⟨b, o, q1, q2, q3⟩ := hv
      exact ⟨b, o, q1, q2, (map_off (f := f) (n := n) (.box pub x) p).trans q3⟩
    | row pub t xs => exact hv
theorem Ren0.ownv (h : Ren0 f n Γ Γ') {k i : Nat} (hi : f k = some i) {v : Value} (hv : Γ.ownv k v) : Γ'.ownv i v := by
  obtain ⟨h1, h2⟩ := h.fwd k i hi
  unfold Ctx.ownv at hv ⊢
  rw [h1, h2, h.w]
  cases hs : Γ.σ k with
  | none => rw [hs] at hv; exact hv.elim
  | some e =>
    rw [hs] at hv
    cases e <;> exact hv
mutual
theorem Ren0.cells (h : Ren0 f n Γ Γ') : ∀ (v : AV) {vs : List Value}, v.cells Γ vs → (v.ren f n).cells Γ' vs
  | .dat t x, vs, hv => by
    show t.rep Γ'.w Γ'.ok x vs
    rw [h.w, h.ok]; exact hv
  | .agg xs, vs, hv => Ren0.cellsL h xs hv
  | .tup xs, vs, hv => hv.elim
  | .loc i p, vs, hv => by
    obtain ⟨v, rfl, hl⟩ := hv
    simp only [AV.ren]
    split
    · rename_i j hj
      exact ⟨v, rfl, h.locv hj hl⟩
    · exact ⟨rfl, by simpa using Ctx.locv_one hl⟩
  | .own i, vs, hv => by
    obtain ⟨v, rfl, hl⟩ := hv
    simp only [AV.ren]
    split
    · rename_i j hj
      exact ⟨v, rfl, h.ownv hj hl⟩
    · exact ⟨rfl, by simpa using Ctx.ownv_one hl⟩
  | .ref t x, vs, hv => by
    obtain ⟨b, o, us, h1, h2, h3, h4⟩ := hv
    exact ⟨b, o, us, h1, by rw [h.ok]; exact h2, by rw [h.w, h.ok]; exact h3, by rw [h.w]; exact h4⟩
  | .nils, vs, hv => hv
  | .nilp, vs, hv => hv
  | .nilf, vs, hv => hv
  | .fn g fs cs, vs, hv => by
    obtain ⟨us, ws, h1, h2, h3⟩ := hv
    exact ⟨us, ws, h1, Ren0.ones h fs h2, Ren0.ones h cs h3⟩
  | .yld l, vs, hv => by
    obtain ⟨b, rfl, h2⟩ := hv
    simp only [AV.ren]
    split
    · rename_i hl
      exact ⟨b, rfl, h.lb l b (by simpa [Nat.blt_eq] using hl) h2⟩
    · exact ⟨rfl, by simp [Value.oneCell']⟩
  | .junk, vs, hv => hv
theorem Ren0.cellsL (h : Ren0 f n Γ Γ') : ∀ (xs : List AV) {vs : List Value}, AV.cellsL Γ xs vs → AV.cellsL Γ' (AV.renL f n xs) vs
  | [], vs, hv => hv
  | x :: xs, vs, hv => by
    obtain ⟨u, v, h1, h2, h3⟩ := hv
    exact ⟨u, v, h1, Ren0.cells h x h2, Ren0.cellsL h xs h3⟩
theorem Ren0.ones (h : Ren0 f n Γ Γ') : ∀ (xs : List AV) {vs : List Value}, AV.ones Γ xs vs → AV.ones Γ' (AV.renL f n xs) vs
  | [], vs, hv => hv
  | x :: xs, vs, hv => by
    obtain ⟨u, v, h1, h2, h3⟩ := hv
    exact ⟨u, v, h1, Ren0.val h x h2, Ren0.ones h xs h3⟩
theorem Ren0.val (h : Ren0 f n Γ Γ') : ∀ (v : AV) {u : Value}, v.val Γ u → (v.ren f n).val Γ' u
  | .dat t x, u, hv => by
    obtain ⟨vs, h1, h2⟩ := hv
    exact ⟨vs, by rw [h.w, h.ok]; exact h1, h2⟩
  | .agg xs, u, hv => by
    obtain ⟨vs, h1, h2⟩ := hv
    exact ⟨vs, Ren0.cellsL h xs h1, h2⟩
  | .tup xs, u, hv => by
    obtain ⟨vs, h1, h2⟩ := hv
    exact ⟨vs, h1, Ren0.ones h xs h2⟩
  | .loc i p, u, hv => by
    simp only [AV.ren]
    split
    · rename_i j hj
      exact h.locv hj hv
    · trivial
  | .own i, u, hv => by
    simp only [AV.ren]
    split
    · rename_i j hj
      exact h.ownv hj hv
    · trivial
  | .ref t x, u, hv => by
    obtain ⟨b, o, us, h1, h2, h3, h4⟩ := hv
    exact ⟨b, o, us, h1, by rw [h.ok]; exact h2, by rw [h.w, h.ok]; exact h3, by rw [h.w]; exact h4⟩
  | .nils, u, hv => hv
  | .nilp, u, hv => hv
  | .nilf, u, hv => hv
  | .fn g fs cs, u, hv => by
    obtain ⟨us, ws, h1, h2, h3⟩ := hv
    exact ⟨us, ws, h1, Ren0.ones h fs h2, Ren0.ones h cs h3⟩
  | .yld l, u, hv => by
    obtain ⟨b, rfl, h2⟩ := hv
    simp only [AV.ren]
    split
    · rename_i hl
      exact ⟨b, rfl, h.lb l b (by simpa [Nat.blt_eq] using hl) h2⟩
    · trivial
  | .junk, u, hv => trivial
end
theorem renL_map (f : Nat → Option Nat) (n : Nat) : ∀ (xs : List AV), AV.renL f n xs = xs.map (AV.ren f n)
  | [] => rfl
  | x :: xs => by simp [AV.renL, renL_map f n xs]
theorem map_live (e : Ent) : (Ent.map (AV.ren f n) e).live = e.live := by
  cases e with
  | box p v => cases p <;> rfl
  | row p t xs => cases p <;> rfl
  | _ => rfl
theorem Ren0.entRep' (h : Ren0 f n Γ Γ') {k i : Nat} (hβ : Γ'.β i = Γ.β k) {e : Ent} (he : EntRep Γ k e) : EntRep Γ' i (Ent.map (AV.ren f n) e) := by
  cases e with
  | unborn => trivial
  | dead => trivial
  | box pub v =>
    obtain ⟨b, C, T, h1, h2, h3, h4⟩ := he
    exact ⟨b, C, T, hβ.trans h1, by rw [h.w]; exact h2, Ren0.cells h v h3, by rw [h.ok]; exact h4⟩
  | row pub t xs =>
    rcases he with ⟨h1, h2⟩ | ⟨b, C, T, h1, h2, h3, h4⟩
    · exact .inl ⟨h1, hβ.trans h2⟩
    · exact .inr ⟨b, C, T, hβ.trans h1, by rw [h.w]; exact h2, by rw [h.w, h.ok]; exact h3, by rw [h.ok]; exact h4⟩
theorem Ren0.entRep (h : Ren0 f n Γ Γ') {k i : Nat} (hi : f k = some i) {e : Ent} (he : EntRep Γ k e) : EntRep Γ' i (Ent.map (AV.ren f n) e) :=
  h.entRep' (h.fwd k i hi).1 he
end
end Go.AV
end
section
set_option linter.unusedVariables false
set_option linter.unusedSimpArgs false
namespace Go.AV
open Go Go.RowKit
theorem addAll_nodup : ∀ (is l : List Nat), l.Nodup → (addAll l is).Nodup
  | [], l, h => h
  | i :: is, l, h => by
    simp only [addAll]
    refine addAll_nodup is _ ?_
    split
    · exact h
    · rename_i hc
      rw [List.nodup_append]
      refine ⟨h, by simp, fun x hx y hy => ?_⟩
      simp only [List.mem_singleton] at hy
      subst hy
      rintro rfl
      exact hc (List.contains_iff_mem.2 hx)
theorem growTo_nodup (σ : Look) : ∀ (n : Nat) (l : List Nat), l.Nodup → (growTo σ n l).Nodup
  | 0, l, h => h
  | n + 1, l, h => growTo_nodup σ n _ (addAll_nodup _ _ h)
theorem growAll_nodup (σ : Look) (vs : List AV) : (growAll σ vs).Nodup := growTo_nodup σ 3 _ (addAll_nodup _ _ List.nodup_nil)
theorem mapO_get {α β : Type} {f : α → Option β} : ∀ {l : List α} {m : List β}, mapO f l = some m → m.length = l.length ∧ ∀ (i : Nat) (x : α), l[i]? = some x → ∃ y, f x = some y ∧ m[i]? = some y
  | [], m, h => by
    simp only [mapO, Option.some.injEq] at h
    subst h
    exact ⟨rfl, fun i x h => by simp at h⟩
  | a :: l, m, h => by
    simp only [mapO] at h
    split at h
    · rename_i y ys h1 h2
      simp only [Option.some.injEq] at h
      subst h
      obtain ⟨k1, k2⟩ := mapO_get h2
      refine ⟨by simp [k1], fun i x hx => ?_⟩
      cases i with
      | zero =>
        simp only [List.getElem?_cons_zero, Option.some.injEq] at hx
        subst hx
        exact ⟨y, h1, rfl⟩
      | succ i => simpa using k2 i x (by simpa using hx)
    · simp at h
theorem pubE_live (e : Ent) : (pubE e).live = false := by cases e <;> rfl
theorem pubE_calm {e : Ent} (h : e.live = false) : pubE e = e := by
  cases e with
  | box p v => cases p <;> simp_all [Ent.live, pubE]
  | row p t xs => cases p <;> simp_all [Ent.live, pubE]
  | _ => rfl
section
variable {P : Program} {E : Env} {w0 : Base} {sp : List (Nat × Obj)} {Γ : Ctx} {σ : Look}
theorem pubOne (hg : Good w0 sp Γ) {i : Nat} {e : Ent} (hσ : Γ.σ i = some e) (hl : e.live = true) :
    ∃ Γ' : Ctx, Γ'.w = Γ.w ∧ Γ'.β = Γ.β ∧ Γ'.lb = Γ.lb ∧ Γ'.σ = updN Γ.σ i (some (pubE e)) ∧ Γ.le Γ' ∧ Good w0 sp Γ' := by
  obtain ⟨Γ', h1, h2, h3, h4, h5, h6, h7⟩ := hg.publish (e' := pubE e) hσ hl (pubE_live e) (by cases e <;> simp [Ent.same, pubE, Ent.live] at *) (by cases e <;> simp [pubE, Ent.live] at *) (fun Γ' hle hw hβ hok => by
    have he := hg.ent i _ hσ
    cases e with
    | unborn => simp [Ent.live] at hl
    | dead => simp [Ent.live] at hl
    | box p v =>
      obtain ⟨b, C, T, q1, q2, q3, q4⟩ := he
      exact ⟨b, C, T, by rw [hβ]; exact q1, by rw [hw]; exact q2, AV.cells_mono hle v q3, by simp [hok, q1]⟩
    | row p t xs =>
      rcases he with ⟨q1, q2⟩ | ⟨b, C, T, q1, q2, q3, q4⟩
      · exact .inl ⟨q1, by rw [hβ]; exact q2⟩
      · exact .inr ⟨b, C, T, by rw [hβ]; exact q1, by rw [hw]; exact q2, qin hle.ok q3, by simp [hok, q1]⟩)
  exact ⟨Γ', h1, h3, h4, h2, h6, h7⟩
theorem pubAll : ∀ (ps : List (Nat × Ent)) {Γ : Ctx}, Good w0 sp Γ → (∀ p ∈ ps, Γ.σ p.1 = some p.2 ∨ Γ.σ p.1 = some (pubE p.2)) → (∀ p ∈ ps, ∀ p' ∈ ps, p.1 = p'.1 → p.2 = p'.2) →
    ∃ Γ' : Ctx, Γ'.w = Γ.w ∧ Γ'.β = Γ.β ∧ Γ'.lb = Γ.lb ∧ Γ'.σ = updE Γ.σ (pubsOf ps) ∧ Γ.le Γ' ∧ Good w0 sp Γ' ∧ ∀ p ∈ ps, Γ'.σ p.1 = some (pubE p.2)
  | [], Γ, hg, _, _ => ⟨Γ, rfl, rfl, rfl, rfl, Ctx.le.refl Γ, hg, fun p hp => by simp at hp⟩
  | p :: ps, Γ, hg, h, hf => by
    have step : ∃ Γ1 : Ctx, Γ1.w = Γ.w ∧ Γ1.β = Γ.β ∧ Γ1.lb = Γ.lb ∧ Γ1.σ = updE Γ.σ (pubsOf [p]) ∧ Γ.le Γ1 ∧ Good w0 sp Γ1 ∧ Γ1.σ p.1 = some (pubE p.2) := by
      by_cases hl : p.2.live = true
      · rcases h p (by simp) with h1 | h1
        · obtain ⟨Γ1, a1, a2, a3, a4, a5, a6⟩ := pubOne hg h1 hl
          exact ⟨Γ1, a1, a2, a3, by rw [a4]; simp [pubsOf, hl, updE], a5, a6, by rw [a4]; simp⟩
        · refine ⟨Γ, rfl, rfl, rfl, ?_, Ctx.le.refl Γ, hg, h1⟩
          simp only [pubsOf, hl, if_true, updE]
          funext k
          by_cases hk : k = p.1
          · subst hk; simp [h1]
          · rw [updN_ne _ _ hk]
      · have hl' : p.2.live = false := by simpa using hl
        refine ⟨Γ, rfl, rfl, rfl, by simp [pubsOf, hl', updE], Ctx.le.refl Γ, hg, ?_⟩
        rcases h p (by simp) with h1 | h1
        · rw [h1, pubE_calm hl']
        · exact h1
    obtain ⟨Γ1, a1, a2, a3, a4, a5, a6, a7⟩ := step
    have hother : ∀ k, k ≠ p.1 → Γ1.σ k = Γ.σ k := by
      intro k hk
      rw [a4]
      simp only [pubsOf]
      split
      · simp only [updE, updN_ne _ _ hk]
      · rfl
    obtain ⟨Γ2, b1, b2, b3, b4, b5, b6, b7⟩ := pubAll ps a6 (fun p' hp' => by
      by_cases hk : p'.1 = p.1
      · right
        rw [hk, a7, hf p (by simp) p' (by simp [hp']) hk.symm]
      · rw [hother _ hk]
        exact h p' (by simp [hp'])) (fun p1 h1 p2 h2 => hf p1 (by simp [h1]) p2 (by simp [h2]))
    refine ⟨Γ2, b1.trans a1, b2.trans a2, b3.trans a3, ?_, a5.trans b5, b6, fun p' hp' => ?_⟩
    · rw [b4, a4]
      have e : pubsOf (p :: ps) = pubsOf [p] ++ pubsOf ps := by
        simp only [pubsOf]
        split <;> rfl
      rw [e, updE_append]
    · rcases List.mem_cons.1 hp' with rfl | hp'
      · by_cases hm : ∃ q ∈ ps, q.1 = p'.1
        · obtain ⟨q, hq1, hq2⟩ := hm
          rw [← hq2, b7 q hq1, hf q (by simp [hq1]) p' (by simp) hq2]
        · rw [b4]
          have : ∀ (qs : List (Nat × Ent)) (f : Look), (∀ q ∈ qs, q.1 ≠ p'.1) → updE f (pubsOf qs) p'.1 = f p'.1 := by
            intro qs
            induction qs with
            | nil => intro f _; rfl
            | cons q qs ih =>
              intro f hq
              simp only [pubsOf]
              split
              · simp only [updE]
                rw [ih _ (fun q' h' => hq q' (by simp [h'])), updN_ne _ _ (hq q (by simp)).symm]
              · exact ih _ (fun q' h' => hq q' (by simp [h']))
          rw [this ps Γ1.σ (fun q hq e => hm ⟨q, hq, e⟩), a7]
      · exact b7 p' hp'
theorem zip_upd {ns : List Ent} (g : Ent → Ent) (nx : Nat) : ∀ (k : Nat) (f : Look) (i : Nat), updE f ((ns.zipIdx k).map fun p => (nx + p.2, g p.1)) i = if nx + k ≤ i ∧ i < nx + k + ns.length then (ns[i - (nx + k)]?).map g else f i := by
  induction ns with
  | nil => intro k f i; simp [updE]; omega
  | cons n ns ih =>
    intro k f i
    simp only [List.zipIdx_cons, List.map_cons, updE]
    rw [ih]
    by_cases h1 : i = nx + k
    · subst h1
      rw [if_neg (by omega)]
      simp
    · by_cases h2 : nx + (k + 1) ≤ i ∧ i < nx + (k + 1) + ns.length
      · rw [if_pos h2, if_pos ⟨by omega, by simp; omega⟩]
        rw [show i - (nx + k) = (i - (nx + (k + 1))) + 1 by omega]
        simp
      · rw [if_neg h2, updN_ne _ _ h1]
        rw [if_neg]
        simp only [List.length_cons]
        omega
theorem zipIdx_get {l : List Nat} {es : List Ent} (he : es.length = l.length) {i : Nat} {k : Nat} (hk : l[i]? = some k) : ∃ e, es[i]? = some e ∧ (k, e) ∈ l.zip es := by
  have hi := (List.getElem?_eq_some_iff.1 hk).1
  refine ⟨es[i]'(by omega), List.getElem?_eq_getElem (by omega), ?_⟩
  apply List.mem_of_getElem? (i := i)
  rw [List.getElem?_zip_eq_some]
  exact ⟨hk, List.getElem?_eq_getElem (by omega)⟩
variable {ρ : Type} {r : ρ} {F : Fence} {n : Nat}
theorem q5j (hW : Wide F) (hP : PureOk P E w0.w) (hg : Good w0 sp Γ) (hσ : LookOk Γ σ) {nx : Nat} (hf : ∀ i, i < 4 → Fresh Γ (nx + i)) {g : FuncId} {args : List AV} {us : List Value} (ha : AV.ones Γ args us)
    {q : AV → Eff → Option ρ} (h : pureK E σ nx g args q = some r) {next : Value → World → Prop} (hn : Goes w0 sp Γ q r next) : LeadsTo F n P next ((callFunc g us.toArray).run P Γ.w) := by
  unfold pureK at h
  dsimp only at h
  generalize hkeep : growAll σ args = keep at h
  split at h
  · simp at h
  · rename_i es hes
    split at h
    · rename_i hknown
      obtain ⟨l1, k1⟩ := mapO_get hes
      have hzip : ∀ p ∈ keep.zip es, σ p.1 = some p.2 := by
        rintro ⟨k, e⟩ hp
        obtain ⟨i, hi⟩ := List.getElem?_of_mem hp
        rw [List.getElem?_zip_eq_some] at hi
        obtain ⟨y, h1, h2⟩ := k1 i k hi.1
        rw [hi.2] at h2
        simp only [Option.some.injEq] at h2
        subst h2
        exact h1
      obtain ⟨Γ1, a1, a2, a3, a4, a5, a6, a7⟩ := pubAll (keep.zip es) hg (fun p hp => .inl (hσ _ _ (hzip p hp))) (fun p hp p' hp' e => by
        have h1 := hzip p hp
        have h2 := hzip p' hp'
        rw [e, h2] at h1
        simpa using h1.symm)
      let Γ0 : Ctx := ⟨Γ1.w, Γ1.ok, fun i => (keep[i]?).bind Γ1.β, fun i => (es.map fun e => (pubE e).map (AV.ren (posIn keep) 0))[i]?, []⟩
      have hent0 : ∀ (i k : Nat), keep[i]? = some k → ∃ e : Ent, es[i]? = some e ∧ Γ1.σ k = some (pubE e) := by
        intro i k hk
        obtain ⟨e, h1, h2⟩ := zipIdx_get l1 hk
        exact ⟨e, h1, a7 _ h2⟩
      have hren0 : Ren0 (posIn keep) 0 Γ1 Γ0 := by
        refine ⟨rfl, rfl, fun l b h => by omega, fun k i hi => ?_⟩
        have hk := posIn_some hi
        obtain ⟨e, h1, h2⟩ := hent0 i k hk
        refine ⟨by simp [Γ0, hk], ?_⟩
        simp only [Γ0, List.getElem?_map, h1, h2, Option.map_some]
      have hgood0 : Good ⟨Γ0.w, Γ0.ok, fun g => P.funcs[g]?⟩ [] Γ0 := by
        have hcalm : ∀ i e, Γ0.σ i = some e → e.live = false := by
          intro i e he
          simp only [Γ0, List.getElem?_map, Option.map_eq_some_iff] at he
          obtain ⟨e0, _, rfl⟩ := he
          rw [map_live, pubE_live]
        refine ⟨fun i e he => ?_, fun i j e e' b h1 h2 h3 h4 => ?_, fun i e b h1 h2 => ?_, fun b hb => ⟨(a6.okb b hb).1, fun p hp => by simp at hp⟩, Below.refl _ _, fun p hp => by simp at hp, fun b hb => hb, fun b hb => .inl hb⟩
        · simp only [Γ0, List.getElem?_map, Option.map_eq_some_iff] at he
          obtain ⟨e0, h1, rfl⟩ := he
          have hi : i < keep.length := by
            have := (List.getElem?_eq_some_iff.1 h1).1
            omega
          obtain ⟨e1, h3, h4⟩ := hent0 i _ (List.getElem?_eq_getElem hi)
          rw [h1] at h3
          simp only [Option.some.injEq] at h3
          subst h3
          exact hren0.entRep' (k := keep[i]) (by simp [Γ0, hi]) (a6.ent _ _ h4)
        · rw [hcalm _ _ h1] at h3; simp at h3
        · rw [hcalm _ _ h1] at h2; simp at h2
      have hbel : Below w0.w.heap.size w0.w Γ0.w := a6.below
      have hs := hP ρ r g _ _ _ h F n hW Γ0 us hbel rfl rfl hgood0 (hren0.ones args (AV.ones_mono a5 _ ha))
      rw [← a1]
      refine LeadsTo.mono (fun u w' hu => ?_) hs
      obtain ⟨v, τ, Γ', h, c1, c2, c3, c4, c5⟩ := hu
      have hnd := growAll_nodup (fun i => τ[i]?) [v]
      generalize hnew : growAll (fun i => τ[i]?) [v] = new at h hnd
      split at h
      · simp at h
      · rename_i ns hns
        split at h
        · rename_i hc
          simp only [Bool.and_eq_true, List.all_eq_true, Nat.ble_eq] at hc
          obtain ⟨hlive, hlen⟩ := hc
          obtain ⟨l2, k2⟩ := mapO_get hns
          let Γ3 : Ctx := ⟨Γ'.w, Γ'.ok, fun i => if nx ≤ i ∧ i < nx + new.length then (new[i - nx]?).bind Γ'.β else Γ1.β i,
            updE Γ1.σ ((ns.zipIdx).map fun p => (nx + p.2, p.1.map (AV.ren (fun k => (posIn new k).map (nx + ·)) 0))), Γ1.lb⟩
          have hB : Below Γ1.w.heap.size Γ1.w Γ'.w := c4.below
          have hokn : ∀ b, Γ'.ok b → Γ1.ok b ∨ Γ1.w.heap.size ≤ b := c4.okn
          have hσ3 : ∀ i, Γ3.σ i = if nx ≤ i ∧ i < nx + new.length then (ns[i - nx]?).map (Ent.map (AV.ren (fun k => (posIn new k).map (nx + ·)) 0)) else Γ1.σ i := by
            intro i
            simp only [Γ3]
            have := zip_upd (ns := ns) (Ent.map (AV.ren (fun k => (posIn new k).map (nx + ·)) 0)) nx 0 Γ1.σ i
            rw [this]
            simp only [Nat.add_zero, l2]
          have hnew3 : ∀ (j k : Nat), new[j]? = some k → ∃ e : Ent, ns[j]? = some e ∧ Γ'.σ k = some e ∧ e.live = true := by
            intro j k hk
            obtain ⟨e, h1, h2⟩ := k2 j k hk
            exact ⟨e, h2, by rw [c3]; exact h1, hlive e (List.mem_of_getElem? h2)⟩
          have hren3 : Ren0 (fun k => (posIn new k).map (nx + ·)) 0 Γ' Γ3 := by
            refine ⟨rfl, rfl, fun l b h => by omega, fun k i hi => ?_⟩
            simp only [Option.map_eq_some_iff] at hi
            obtain ⟨j, hj, rfl⟩ := hi
            have hk := posIn_some hj
            have hjl := (List.getElem?_eq_some_iff.1 hk).1
            obtain ⟨e, h1, h2, _⟩ := hnew3 j k hk
            refine ⟨?_, ?_⟩
            · simp only [Γ3]
              rw [if_pos ⟨by omega, by omega⟩]
              simp [hk]
            · rw [hσ3, if_pos ⟨by omega, by omega⟩]
              rw [show nx + j - nx = j by omega, h1, h2]
          have hfr : ∀ i, nx ≤ i ∧ i < nx + new.length → Fresh Γ1 i := by
            intro i hi
            have h4 := hf (i - nx) (by omega)
            rw [show nx + (i - nx) = i by omega] at h4
            have hno : ∀ p ∈ keep.zip es, p.1 ≠ i := by
              rintro p hp rfl
              have h1 := hσ _ _ (hzip p hp)
              have h2 : p.2.known = true := by
                rw [List.all_eq_true] at hknown
                exact hknown _ (List.of_mem_zip hp).2
              rcases h4 with h4 | h4 <;> rw [h4] at h1 <;> simp at h1
              rw [← h1] at h2
              simp [Ent.known] at h2
            have : ∀ (qs : List (Nat × Ent)) (f : Look), (∀ q ∈ qs, q.1 ≠ i) → updE f (pubsOf qs) i = f i := by
              intro qs
              induction qs with
              | nil => intro f _; rfl
              | cons q qs ih =>
                intro f hq
                simp only [pubsOf]
                split
                · simp only [updE]
                  rw [ih _ (fun q' h' => hq q' (by simp [h'])), updN_ne _ _ (hq q (by simp)).symm]
                · exact ih _ (fun q' h' => hq q' (by simp [h']))
            unfold Fresh
            rw [a4, this _ _ hno]
            exact h4
          have hle : Γ1.le Γ3 := by
            refine ⟨fun b hb => ⟨c4.okm b hb, hB.block b (a6.okb b hb).1⟩, fun i e h1 h2 => ?_, fun _ _ h => h⟩
            have hi : ¬ (nx ≤ i ∧ i < nx + new.length) := by
              intro hi
              rcases hfr i hi with h | h <;> rw [h] at h1 <;> simp at h1
              exact h2 h1.symm
            refine ⟨e, by rw [hσ3, if_neg hi]; exact h1, .inr ⟨Ent.same.rfl' h2, by simp only [Γ3]; rw [if_neg hi], fun b C T _ hk => ⟨C, (hB.block b (blk_lt hk)).trans hk, rfl⟩⟩⟩
          have hg3 : Good w0 sp Γ3 := by
            refine a6.next hle (a6.below.trans (hB.mono a6.below.size)) ?_ ?_ ?_ hB.size (fun p hp => hB.block _ (sp_lt a6 hp))
            · intro b hb
              rcases hokn b hb with k | k
              · exact .inl k
              · exact .inr ⟨fun p hp e => by have := sp_lt a6 hp; omega, (c4.okb b hb).1, Nat.le_trans a6.below.size k⟩
            · intro i e he
              rw [hσ3] at he
              split at he
              · rename_i hi
                simp only [Option.map_eq_some_iff] at he
                obtain ⟨e0, h1, rfl⟩ := he
                have hj : i - nx < new.length := by omega
                obtain ⟨e1, h3, h4, _⟩ := hnew3 (i - nx) _ (List.getElem?_eq_getElem hj)
                rw [h1] at h3
                simp only [Option.some.injEq] at h3
                subst h3
                exact hren3.entRep' (k := new[i - nx]) (by simp only [Γ3]; rw [if_pos hi]; simp [hj]) (c4.ent _ _ h4)
              · rename_i hi
                refine EntRep.stay hle (a6.ent i e he) (by simp only [Γ3]; rw [if_neg hi]) fun b C T hβ hk hx => ⟨hB.block b (blk_lt hk), ⟨fun h => ?_, c4.okm b⟩⟩
                rcases hokn b h with k | k
                · exact k
                · have := blk_lt hk
                  omega
            · intro i e b h1 h2 h3
              rw [hσ3] at h1
              by_cases hi : nx ≤ i ∧ i < nx + new.length
              · rw [if_pos hi] at h1
                simp only [Option.map_eq_some_iff] at h1
                obtain ⟨e0, h1, rfl⟩ := h1
                have hj : i - nx < new.length := by omega
                obtain ⟨e1, h4, h5, h6⟩ := hnew3 (i - nx) _ (List.getElem?_eq_getElem hj)
                simp only [Γ3] at h3
                rw [if_pos hi, List.getElem?_eq_getElem hj, Option.bind_some] at h3
                have hb : Γ1.w.heap.size ≤ b := (c4.base _ _ b h5 h6 h3).1
                refine .inr ⟨.inl hb, fun j e2 m1 m2 m3 => ?_⟩
                rw [hσ3] at m1
                by_cases hjj : nx ≤ j ∧ j < nx + new.length
                · rw [if_pos hjj] at m1
                  simp only [Option.map_eq_some_iff] at m1
                  have hj2 : j - nx < new.length := by omega
                  obtain ⟨e3, _, n5, n6⟩ := hnew3 (j - nx) _ (List.getElem?_eq_getElem hj2)
                  simp only [Γ3] at m3
                  rw [if_pos hjj, List.getElem?_eq_getElem hj2, Option.bind_some] at m3
                  have heq := c4.inj _ _ _ _ b n5 h5 n6 h6 m3 h3
                  have := (List.getElem_inj hnd).1 heq
                  omega
                · rw [if_neg hjj] at m1
                  simp only [Γ3] at m3
                  rw [if_neg hjj] at m3
                  obtain ⟨C, T, hk⟩ := a6.blkOf m1 m3 m2
                  have := blk_lt hk
                  omega
              · rw [if_neg hi] at h1
                simp only [Γ3] at h3
                rw [if_neg hi] at h3
                exact .inl ⟨e, h1, h2, h3⟩
          have := hn _ _ u Γ3 h (hren3.val v c5) (a5.trans hle) (by simp only [Γ3]; rw [updE_append, ← a4]) a3 hg3
          rw [← c1]
          exact this
        · simp at h
    · simp at h
end
end Go.AV
end
section
set_option linter.unusedVariables false
set_option linter.unusedSimpArgs false
namespace Go.AV
open Go Go.RowKit
section
variable {P : Program} {E : Env}
section ops
variable {w0 : Base} {sp : List (Nat × Obj)} {Γ : Ctx} {a : Act} {rv : Operand → Option AV} {σ : Look} {ρ : Type} {r : ρ} {F : Fence} {n : Nat}
theorem wp_of_done (hW : Wide F) {o : Oper} {next : Act → World → Prop} {Q : Exit → Act → World → Prop} {q : AV → Eff → Option ρ} {v : AV} {e : Eff} (hq : q v e = some r) (hd : ∀ c, o.op ≠ .defer c)
    (h : Done w0 sp Γ ((execOp a.eval o).run P Γ.w) v e) (hn : Goes w0 sp Γ q r fun u w => next (a.put o.dst u) w) : o.wpIn F n P a Γ.w next Q := by
  refine ⟨fun f _ => hW.1 f, ?_⟩
  rw [Oper.semAt_eq F.round a.eval o hd]
  obtain ⟨u, Γ', h1, h2, h3, h4, h5, h6⟩ := h
  have := hn v e u Γ' hq h2 h3 h4 h5 h6
  rcases h1 with h1 | ⟨h1, rfl⟩
  · rw [h1]; exact this
  · rw [h1]; exact this
theorem opK_notDefer {o : Op} {nx : Nat} {q : AV → Eff → Option ρ} (h : opK E o rv σ nx q = some r) : ∀ c, o ≠ .defer c := by
  rintro c rfl
  simp [opK] at h
theorem leads_wp (hW : Wide F) {o : Oper} {next : Act → World → Prop} {Q : Exit → Act → World → Prop} {w : World} {R : Value → World → Prop} (hd : ∀ c, o.op ≠ .defer c)
    (h : LeadsTo F (n - 1) P R ((execOp a.eval o).run P w)) (hn : ∀ u w, R u w → next (a.put o.dst u) w) : o.wpIn F n P a w next Q := by
  refine ⟨fun f _ => hW.1 f, ?_⟩
  rw [Oper.semAt_eq F.round a.eval o hd]
  have hdep : F.depth.isSome = true → 1 ≤ n := by simp [hW.2]
  revert h
  generalize (execOp a.eval o).run P w = x
  intro h
  cases x with
  | halt y w => exact h.elim
  | ok y w' =>
    cases y <;> first | exact h.elim | exact hn _ _ h | skip
    · refine ⟨hdep, CallsIn.mono h fun e w'' he => ?_⟩
      cases e with
      | returned v => exact hn _ _ he
      | panicked c => exact he.elim
      | outgrown => exact he.elim
    · refine ⟨hdep, RoundIn.mono h fun e w'' he => ?_⟩
      cases e with
      | returned v => exact hn _ _ he
      | panicked c => exact he.elim
      | outgrown => exact he.elim
    · exact ⟨hdep, RowsIn.mono h fun v w'' he => hn _ _ he⟩
theorem exec_call_value {ρ : Operand → Value} {f : Operand} {args : Array Operand} {aty : Array TypeId} {dst : Option Tmp} {ty : TypeId} {pos : String} {after : Array Edge} {grd : Option (Nat × Bool)} {g : FuncId} {us ws : Array Value}
    (h : ρ f = .func (.func g) us ws) {w : World} : (execOp ρ ⟨dst, .call ⟨.value f, args, aty⟩, ty, pos, after, grd⟩).run P w = (callFunc g (us ++ args.map ρ ++ ws)).run P w := by
  simp [execOp, resolve, Deferred.ofValue, h, invoke]
theorem opK_wp (hW : Wide F) (hT : ∀ g t, E.T g = some t → FnSpec P E.glob g t) (hS : ∀ g s, E.spec g = some s → SpecOk P E.glob g s) (hP : PureOk P E w0.w) (hD : TabOk P E) (hG : GlobOk E.glob w0.w) (hg : Good w0 sp Γ) (ho : OpdOk Γ a rv) (hgl : ∀ g, rv (.global g) = none) (hσ : LookOk Γ σ) {nx : Nat} {o : Oper} (hf : Fresh Γ nx) (hf4 : borns E o.op = 4 → ∀ i, i < 4 → Fresh Γ (nx + i))
    {q : AV → Eff → Option ρ} (h : opK E o.op rv σ nx q = some r) {next : Act → World → Prop} {Q : Exit → Act → World → Prop} (hn : Goes w0 sp Γ q r fun u w => next (a.put o.dst u) w) :
    o.wpIn F n P a Γ.w next Q := by
  by_cases hc : ∀ c f, o.op = .call c → c.callee ≠ .value f
  · obtain ⟨v, e, h1, h2⟩ := opK_done hD hG hg ho hgl hσ hf hc h
    exact wp_of_done hW h1 (opK_notDefer h) h2 hn
  · obtain ⟨dst, op, ty, pos, after, grd⟩ := o
    have hnd := opK_notDefer h
    simp only at hc h hnd
    simp only [Classical.not_forall, Classical.not_not] at hc
    obtain ⟨c, f, rfl, hcf⟩ := hc
    obtain ⟨callee, args, aty⟩ := c
    simp only at hcf
    subst hcf
    simp only [opK] at h
    split at h
    · rename_i vs b hv hb; simp at hb
    · rename_i vs f' hv hf'
      simp only [Callee.value.injEq] at hf'
      subst hf'
      split at h
      · rename_i g fs cs hfn
        split at h
        · rename_i t ht
          split at h
          · rename_i x e hx
            obtain ⟨us, ws, e1, m1, m2⟩ := ho _ _ hfn
            have m := ones_append (ones_append m1 (mapO_ones ho hv)) m2
            obtain ⟨Γ1, a1, a2, a3, a4, a5, a6⟩ := q0f t.A hg hσ hx m
            cases hy : t.G x with
            | none => rw [hy] at h; simp at h
            | some y =>
              rw [hy] at h
              simp only [Option.bind_some] at h
              have hs := hT g t ht F (n - 1) hW Γ1.w Γ1.ok _ x y hy (hG.below a5.below) (fun b hb => (a5.okb b hb).1) (backL_ctx (Γ := Γ1) (Γ' := bare Γ1.w Γ1.ok) rfl rfl t.A x a6)
              refine leads_wp hW hnd (w := Γ.w) ?_ (fun u w hR => ?_) (R := fun v w' => Below Γ1.w.heap.size Γ1.w w' ∧ ∃ ok' : Nat → Prop, (∀ b, Γ1.ok b → ok' b) ∧ (∀ b, ok' b → Γ1.ok b ∨ Γ1.w.heap.size ≤ b) ∧ (∀ b, ok' b → b < w'.heap.size) ∧ (back t.R y).val (bare w' ok') v)
              · rw [exec_call_value e1, ← a1]
                have e2 : (us ++ List.map a.eval args.toList ++ ws).toArray = us.toArray ++ args.map a.eval ++ ws.toArray := by
                  apply Array.toList_inj.1
                  simp
                rw [e2] at hs
                exact hs
              · obtain ⟨hb, ok', k1, k2, k3, k4⟩ := hR
                obtain ⟨l, g2⟩ := a5.called hb k1 k2 k3
                exact hn _ _ u { Γ1 with w := w, ok := ok' } h (back_ctx (Γ := bare w ok') (Γ' := { Γ1 with w := w, ok := ok' }) rfl rfl t.R y k4) (a4.trans l) a3 a2 g2
          · simp at h
        · rename_i ht
          obtain ⟨us, ws, e1, m1, m2⟩ := ho _ _ hfn
          have m := ones_append (ones_append m1 (mapO_ones ho hv)) m2
          split at h
          · rename_i s hs
            split at h
            · rename_i b x e hx
              cases b with
              | false => simp [cond'] at h
              | true =>
                have hs := hS g s hs σ _ x e hx F (n - 1) hW w0 sp Γ _ hG hg hσ m
                refine leads_wp hW hnd (w := Γ.w) ?_ (fun u w hR => ?_) (R := fun u w' => ∃ Γ' : Ctx, Γ'.w = w' ∧ x.val Γ' u ∧ Γ.le Γ' ∧ Γ'.σ = updE Γ.σ e ∧ Γ'.lb = Γ.lb ∧ Good w0 sp Γ')
                · rw [exec_call_value e1]
                  have e2 : (us ++ List.map a.eval args.toList ++ ws).toArray = us.toArray ++ args.map a.eval ++ ws.toArray := by
                    apply Array.toList_inj.1
                    simp
                  rw [e2] at hs
                  exact hs
                · obtain ⟨Γ', rfl, k1, k2, k3, k4, k5⟩ := hR
                  exact hn _ _ u Γ' h k1 k2 k3 k4 k5
            · simp at h
          have hb4 : borns E (.call ⟨.value f, args, aty⟩) = 4 := by
            cases f with
            | func f0 =>
              simp only [Act.eval, Value.func.injEq, Fn.func.injEq] at e1
              simp only [borns, e1.1, ht]
            | _ => rfl
          have hs := q5j (n := n - 1) hW hP hg hσ (hf4 hb4) m h hn
          refine leads_wp hW hnd (w := Γ.w) ?_ (fun u w hR => hR) (R := fun u w => next (a.put dst u) w)
          rw [exec_call_value e1]
          have e2 : (us ++ List.map a.eval args.toList ++ ws).toArray = us.toArray ++ args.map a.eval ++ ws.toArray := by
            apply Array.toList_inj.1
            simp
          rw [e2] at hs
          exact hs
      · simp at h
    · simp at h
end ops
end
end Go.AV
end
section
set_option linter.unusedVariables false
set_option linter.unusedSimpArgs false
namespace Go.AV
open Go Go.RowKit
structure LI where
  blk : Nat
  dfr : Nat
  fn : FuncId
  tmps : List Value
  params : List Nat
  assign : Code
  body : Code
def Ex.code : Ex → Code
  | .normal => .skip
  | .exit id => .exit id
  | .ret => .ret
def LSt.state : LSt → LoopState
  | .ready => .ready
  | .busy => .busy
  | .done _ => .done
def LSt.pending : LSt → Option Code
  | .done x => some x.code
  | _ => none
def LI.obj (i : LI) (s : LSt) : Obj :=
  .loop { state := s.state, pending := s.pending, fn := i.fn, tmps := i.tmps.toArray, params := i.params.toArray, assign := i.assign, body := i.body, defers := i.dfr }
def spL : List Lp → List LI → List (Nat × Obj)
  | l :: ls, i :: is => (i.blk, i.obj l.st) :: spL ls is
  | _, _ => []
def spM (M : List Nat) : List (Nat × Obj) := M.map fun r => (r, .deferred (some []))
structure Rel (w0 : Base) (L : List LI) (M : List Nat) (outs : List (List Value)) (st : St) (Γ : Ctx) (tmps : Array Value) : Prop where
  σ : Γ.σ = fun i => st.σ[i]?
  tm : AV.ones Γ st.tm tmps.toList
  out : All2 (AV.ones Γ) st.out outs
  lb : Γ.lb = L.map (·.blk)
  lp : All2 (fun (l : Lp) (i : LI) => (l.params = i.params ∧ RfAt w0.fs l.fid l.cb l.params l.assign l.body) ∧ l.assign = i.assign ∧ l.body = i.body ∧ AV.ones Γ l.tm i.tmps) st.lp L
  good : Good w0 (spL st.lp L ++ spM M) Γ
  nodup : (L.map (·.blk) ++ M).Nodup
theorem qaw {α β : Type} {R R' : α → β → Prop} (h : ∀ a b, R a b → R' a b) : ∀ {l : List α} {m : List β}, All2 R l m → All2 R' l m
  | _, _, .nil => .nil
  | _, _, .cons h1 h2 => .cons (h _ _ h1) (qaw h h2)
theorem all2_len {α β : Type} {R : α → β → Prop} : ∀ {l : List α} {m : List β}, All2 R l m → l.length = m.length
  | _, _, .nil => rfl
  | _, _, .cons h1 h2 => by simp [all2_len h2]
section
variable {P : Program} {E : Env} {w0 : Base} {L : List LI} {M : List Nat} {outs : List (List Value)} {st : St} {Γ Γ' : Ctx} {tmps : Array Value} {ρ : Type} {r : ρ}
theorem setAt_get (σ : List Ent) (p : Nat × Ent) (h : p.1 ≤ σ.length) : (fun i => (setAt σ p)[i]?) = updN (fun i => σ[i]?) p.1 (some p.2) := by
  funext i
  unfold setAt updN
  split
  · rename_i hlt
    by_cases hi : i = p.1
    · subst hi; simp [hlt]
    · simp [hi, Ne.symm hi]
  · have : p.1 = σ.length := by omega
    by_cases hi : i = p.1
    · subst hi; simp [this]
    · simp only [hi, if_false]
      rcases Nat.lt_or_ge i σ.length with hlt | hge
      · rw [List.getElem?_append_left hlt]
      · rw [List.getElem?_eq_none (by simp; omega), List.getElem?_eq_none (by omega)]
theorem setAt_len (σ : List Ent) (p : Nat × Ent) : σ.length ≤ (setAt σ p).length := by
  unfold setAt; split <;> simp
theorem eff_get : ∀ (e : Eff) (σ : List Ent), (∀ p ∈ e, p.1 ≤ σ.length) → (fun i => (e.foldl setAt σ)[i]?) = updE (fun i => σ[i]?) e
  | [], σ, _ => rfl
  | p :: e, σ, h => by
    simp only [List.foldl_cons, updE]
    rw [eff_get e (setAt σ p) (fun q hq => Nat.le_trans (h q (by simp [hq])) (setAt_len σ p)), setAt_get σ p (h p (by simp))]
theorem Rel.step (h : Rel w0 L M outs st Γ tmps) {e : Eff} (hle : Γ.le Γ') (hσ : Γ'.σ = updE Γ.σ e) (hlb : Γ'.lb = Γ.lb) (hg : Good w0 (spL st.lp L ++ spM M) Γ') (he : ∀ p ∈ e, p.1 ≤ st.σ.length) :
    Rel w0 L M outs (st.eff e) Γ' tmps where
  σ := by rw [hσ, h.σ]; exact (eff_get e st.σ he).symm
  tm := AV.ones_mono hle _ h.tm
  out := qaw (fun _ _ h => AV.ones_mono hle _ h) h.out
  lb := hlb.trans h.lb
  lp := qaw (fun _ _ h => ⟨h.1, h.2.1, h.2.2.1, AV.ones_mono hle _ h.2.2.2⟩) h.lp
  good := hg
  nodup := h.nodup
theorem ones_set : ∀ {xs : List AV} {vs : List Value} {v : AV} {u : Value} (i : Nat), AV.ones Γ xs vs → v.val Γ u → AV.ones Γ (xs.set i v) (vs.set i u)
  | [], vs, v, u, i, h, hv => by rw [show vs = [] from h]; rfl
  | x :: xs, vs, v, u, i, ⟨a, b, e, h1, h2⟩, hv => by
    subst e
    cases i with
    | zero => exact ⟨u, b, rfl, hv, h2⟩
    | succ i => exact ⟨a, b.set i u, rfl, h1, ones_set i h2 hv⟩
theorem Rel.put (h : Rel w0 L M outs st Γ tmps) {a : Act} (ha : a.tmps = tmps) {v : AV} {u : Value} (d : Option Tmp) (hv : v.val Γ u) : Rel w0 L M outs (putDst st d v) Γ (a.put d u).tmps := by
  subst ha
  cases d with
  | none => exact h
  | some d =>
    refine { h with tm := ?_ }
    simp only [putDst, Act.put]
    rw [Array.toList_setIfInBounds]
    exact ones_set d h.tm hv
theorem Rel.opd (h : Rel w0 L M outs st Γ tmps) {a : Act} (ha : a.tmps = tmps) : OpdOk Γ a (opd st.tm) := by
  subst ha
  intro x v hx
  cases x with
  | tmp t =>
    obtain ⟨u, h1, h2⟩ := ones_get h.tm hx
    have : a.eval (.tmp t) = u := by
      simp only [Act.eval]
      rw [Array.getElem?_toList] at h1
      simp [h1]
    rw [this]; exact h2
  | const c => exact constV_val hx
  | func f =>
    simp only [AV.opd, Option.some.injEq] at hx
    subst hx
    exact ⟨[], [], rfl, rfl, rfl⟩
  | global g => simp [AV.opd] at hx
theorem opd_global (tm : List AV) : ∀ g, opd tm (.global g) = none := fun _ => rfl
theorem Rel.look (h : Rel w0 L M outs st Γ tmps) : LookOk Γ fun i => st.σ[i]? := by
  intro i e he
  rw [h.σ]; exact he
theorem Rel.fresh (h : Rel w0 L M outs st Γ tmps) : Fresh Γ st.σ.length := by
  left
  rw [h.σ]; simp
theorem Rel.freshAt (h : Rel w0 L M outs st Γ tmps) (i : Nat) : Fresh Γ (st.σ.length + i) := by
  left
  rw [h.σ]; simp
theorem undef_val : (AV.tup []).val Γ undef := ⟨[], rfl, rfl⟩
theorem Rel.setTm (h : Rel w0 L M outs st Γ tmps) {d : Nat} {v v' : AV} (hd : st.tm[d]? = some v) (hv : ∀ u, v.val Γ u → v'.val Γ u) : Rel w0 L M outs { st with tm := st.tm.set d v' } Γ tmps := by
  refine { h with tm := ?_ }
  obtain ⟨u, h1, h2⟩ := ones_get h.tm hd
  have := ones_set d h.tm (hv u h2)
  have e : tmps.toList.set d u = tmps.toList := by
    apply List.ext_getElem?
    intro i
    by_cases hi : i = d
    · subst hi
      have := (List.getElem?_eq_some_iff.1 h1).1
      rw [List.getElem?_set_self this, h1]
    · rw [List.getElem?_set_ne (Ne.symm hi)]
  rwa [e] at this
theorem q4f (h : Rel w0 L M outs st Γ tmps) {ops : Array Oper} {o : Oper} {run skip : St → Option ρ} (hk : guardK ops o.guard st run skip = some r) :
    ∃ st', Rel w0 L M outs st' Γ tmps ∧ ((Region.wanted o (yielded ops tmps) = true ∧ run st' = some r) ∨ (Region.wanted o (yielded ops tmps) = false ∧ skip st' = some r)) := by
  unfold guardK at hk
  unfold Region.wanted
  split at hk
  · rename_i hg
    rw [hg]
    exact ⟨st, h, .inl ⟨rfl, hk⟩⟩
  · rename_i j want hg
    rw [hg]
    simp only
    split at hk
    · rename_i hd
      refine ⟨st, h, .inr ⟨?_, hk⟩⟩
      simp [yielded, hd]
    · rename_i d hd
      split at hk
      · rename_i b hb
        obtain ⟨u, h1, h2⟩ := ones_get h.tm hb
        have hu := val_bool.1 h2
        rw [Array.getElem?_toList] at h1
        have hy : yielded ops tmps j = some b := by
          simp [yielded, hd, h1, hu]
        cases b with
        | true =>
          simp only [cond'] at hk
          refine ⟨_, h.setTm (v' := .dat .bool true) hb (fun u h => h), ?_⟩
          cases want with
          | true => exact .inl ⟨by simp [hy], by simpa using hk⟩
          | false => exact .inr ⟨by simp [hy], by simpa using hk⟩
        | false =>
          simp only [cond'] at hk
          refine ⟨_, h.setTm (v' := .dat .bool false) hb (fun u h => h), ?_⟩
          cases want with
          | true => exact .inr ⟨by simp [hy], by simpa using hk⟩
          | false => exact .inl ⟨by simp [hy], by simpa using hk⟩
      · rename_i hb
        refine ⟨st, h, .inr ⟨?_, hk⟩⟩
        obtain ⟨u, h1, vs, h2, h3⟩ := ones_get h.tm hb
        rw [Array.getElem?_toList] at h1
        simp [yielded, hd, h1, h2]
      · rename_i hb
        refine ⟨st, h, .inr ⟨?_, hk⟩⟩
        have h1 : tmps.toList[d]? = none := by
          have := ones_len h.tm
          rw [List.getElem?_eq_none_iff] at hb ⊢
          omega
        rw [Array.getElem?_toList] at h1
        simp [yielded, hd, h1]
      · simp at hk
end
end Go.AV
end
section
set_option linter.unusedVariables false
set_option linter.unusedSimpArgs false
namespace Go.AV
open Go Go.RowKit
section
variable {P : Program} {w0 : Base} {sp sp' : List (Nat × Obj)} {Γ : Ctx}
theorem Good.subSp (hg : Good w0 sp Γ) (h : ∀ p ∈ sp', p ∈ sp) : Good w0 sp' Γ :=
  { hg with base := fun i e b h1 h2 h3 => ⟨(hg.base i e b h1 h2 h3).1, fun p hp => (hg.base i e b h1 h2 h3).2 p (h p hp)⟩
            okb := fun b hb => ⟨(hg.okb b hb).1, fun p hp => (hg.okb b hb).2 p (h p hp)⟩
            sp := fun p hp => hg.sp p (h p hp) }
theorem Good.putObj (hg : Good w0 sp Γ) {r : Nat} {o o' : Obj} (hr : (r, o) ∈ sp) (ho : ∀ C T f, o ≠ .cells C T f) (h : ∀ q ∈ sp', q = (r, o') ∨ (q ∈ sp ∧ q.1 ≠ r)) :
    Γ.le { Γ with w := Γ.w.putObj r o' } ∧ Good w0 sp' { Γ with w := Γ.w.putObj r o' } := by
  have hlt : r < Γ.w.heap.size := sp_lt hg hr
  have hoth : ∀ k, k ≠ r → (Γ.w.putObj r o').heap[k]? = Γ.w.heap[k]? := fun k hk => World.putObj_heap_other hk
  have hcell : ∀ b C T, blk Γ.w b C T → b ≠ r := by
    rintro b C T hb rfl
    have := (hg.sp _ hr).1
    unfold blk at hb
    rw [hb] at this
    simp only [Option.some.injEq] at this
    exact ho _ _ _ this.symm
  have hle : Γ.le { Γ with w := Γ.w.putObj r o' } := by
    refine ⟨fun b hb => ⟨hb, hoth b (fun e => (hg.okb b hb).2 _ hr e.symm)⟩, fun j x h1 h2 => ⟨x, h1, .inr ⟨Ent.same.rfl' h2, rfl, fun b C T hb hk => ⟨C, ?_, rfl⟩⟩⟩, fun _ _ h => h⟩
    exact (hoth b (hcell b C T hk)).trans hk
  refine ⟨hle, ?_, ?_, ?_, ?_, ?_, ?_, hg.okm, hg.okn⟩
  · intro i e h1
    exact EntRep.stay hle (hg.ent i e h1) rfl fun b C T hb hk _ => ⟨hoth b (hcell b C T hk), Iff.rfl⟩
  · exact hg.inj
  · intro i e b h1 h2 h3
    refine ⟨(hg.base i e b h1 h2 h3).1, fun p hp => ?_⟩
    rcases h p hp with rfl | ⟨h4, _⟩
    · exact (hg.base i e b h1 h2 h3).2 (r, o) hr
    · exact (hg.base i e b h1 h2 h3).2 _ h4
  · intro b hb
    refine ⟨by simpa using (hg.okb b hb).1, fun p hp => ?_⟩
    rcases h p hp with rfl | ⟨h4, _⟩
    · exact (hg.okb b hb).2 (r, o) hr
    · exact (hg.okb b hb).2 _ h4
  · exact hg.below.trans ⟨rfl, rfl, rfl, by simp, fun k hk => hoth k (fun e => by have := (hg.sp _ hr).2; simp only at this; omega)⟩
  · intro p hp
    rcases h p hp with rfl | ⟨h4, h5⟩
    · exact ⟨World.putObj_heap_same hlt, (hg.sp _ hr).2⟩
    · exact ⟨(hoth p.1 h5).trans (hg.sp p h4).1, (hg.sp p h4).2⟩
theorem Good.allocObj (hg : Good w0 sp Γ) (o : Obj) :
    Γ.le { Γ with w := Γ.w.alloc o } ∧ Good w0 ((Γ.w.heap.size, o) :: sp) { Γ with w := Γ.w.alloc o } := by
  have hold : ∀ b, b < Γ.w.heap.size → (Γ.w.alloc o).heap[b]? = Γ.w.heap[b]? := fun b hb => Below.heap_alloc Γ.w _ b hb
  have hle : Γ.le { Γ with w := Γ.w.alloc o } :=
    ⟨fun b hb => ⟨hb, hold b (hg.okb b hb).1⟩, fun j x h1 h2 => ⟨x, h1, .inr ⟨Ent.same.rfl' h2, rfl, fun b C T hb hk => ⟨C, (hold b (blk_lt hk)).trans hk, rfl⟩⟩⟩, fun _ _ h => h⟩
  refine ⟨hle, ?_, ?_, ?_, ?_, ?_, ?_, hg.okm, hg.okn⟩
  · intro i e h1
    exact EntRep.stay hle (hg.ent i e h1) rfl fun b C T hb hk _ => ⟨hold b (blk_lt hk), Iff.rfl⟩
  · exact hg.inj
  · intro i e b h1 h2 h3
    refine ⟨(hg.base i e b h1 h2 h3).1, fun p hp => ?_⟩
    rcases List.mem_cons.1 hp with rfl | hp
    · obtain ⟨C, T, hk⟩ := hg.blkOf h1 h3 h2
      have := blk_lt hk
      simp only
      omega
    · exact (hg.base i e b h1 h2 h3).2 p hp
  · intro b hb
    refine ⟨Nat.lt_of_lt_of_le (hg.okb b hb).1 (by simp), fun p hp => ?_⟩
    rcases List.mem_cons.1 hp with rfl | hp
    · have := (hg.okb b hb).1
      simp only
      omega
    · exact (hg.okb b hb).2 p hp
  · exact hg.below.alloc hg.below.size _
  · intro p hp
    rcases List.mem_cons.1 hp with rfl | hp
    · exact ⟨World.alloc_heap_new _ _, hg.below.size⟩
    · exact ⟨(hold p.1 (sp_lt hg hp)).trans (hg.sp p hp).1, (hg.sp p hp).2⟩
end
end Go.AV
end
section
set_option linter.unusedVariables false
set_option linter.unusedSimpArgs false
namespace Go.AV
open Go Go.RowKit
def markOf (r : Nat) : Deferred := { target := .collected r, args := #[] }
structure RelA (F : Fence) (w0 : Base) (L : List LI) (M0 : List Nat) (outs : List (List Value)) (st : St) (Γ : Ctx) (a : Act) (own : List Nat) : Prop where
  rel : Rel w0 L (own ++ M0) outs st Γ a.tmps
  defers : a.defers = own.map markOf
  round : F.round.isSome = true → own = []
  inL : ∀ l, F.round = some l → ∃ i ∈ L, i.blk = l
def Ex.toExit : Ex → Exit
  | .normal => .normal
  | .exit id => .exit id
  | .ret => .ret
def PostOk {ρ : Type} (F : Fence) (w0 : Base) (L : List LI) (M0 : List Nat) (outs : List (List Value)) (K : Ex → St → Option ρ) (r : ρ) (Q : Exit → Act → World → Prop) : Prop :=
  ∀ x st Γ a own, K x st = some r → RelA F w0 L M0 outs st Γ a own → Q x.toExit a Γ.w
def LoopW (F : Fence) (n : Nat) (P : Program) (c : Code) (Q : Exit → Act → World → Prop) : Nat → Act → World → Prop
  | 0, _, _ => False
  | N + 1, a, w => c.wpIn F n P (Exit.then (LoopW F n P c Q N) Q) a w
theorem Exit.then_mono {K K' : Act → World → Prop} {Q : Exit → Act → World → Prop} (h : ∀ a w, K a w → K' a w) : ∀ e a w, Exit.then K Q e a w → Exit.then K' Q e a w := by
  intro e a w
  cases e <;> first | exact h a w | exact id
theorem least {p : Nat → Prop} : (∃ n, p n) → ∃ n, p n ∧ ∀ m, p m → n ≤ m := by
  rintro ⟨n, hn⟩
  induction n using Nat.strongRecOn with
  | _ n ih =>
    by_cases h : ∃ m, m < n ∧ p m
    · obtain ⟨m, h1, h2⟩ := h
      exact ih m h1 h2
    · exact ⟨n, hn, fun m hm => Nat.le_of_not_lt fun hlt => h ⟨m, hlt, hm⟩⟩
theorem LoopW.wp {F : Fence} {n : Nat} {P : Program} {c : Code} {Q : Exit → Act → World → Prop} {N : Nat} {a : Act} {w : World} (h : LoopW F n P c Q N a w) : (Code.loop c).wpIn F n P Q a w := by
  classical
  refine wpIn_loop (fun a w => ∃ N, LoopW F n P c Q N a w) (fun a w => if h : ∃ N, LoopW F n P c Q N a w then (least h).choose else 0) ⟨N, h⟩ ?_
  intro a w hI
  have hs := (least hI).choose_spec.1
  generalize hm : (least hI).choose = m at hs
  cases m with
  | zero => exact hs.elim
  | succ m =>
    refine wpIn_mono hs (Exit.then_mono fun a' w' h' => ⟨⟨m, h'⟩, ?_⟩)
    have h1 : ∃ N, LoopW F n P c Q N a' w' := ⟨m, h'⟩
    simp only [dif_pos h1, dif_pos hI, hm]
    exact Nat.lt_succ_of_le ((least h1).choose_spec.2 m h')
def LoopSpec (P : Program) (gl : Nat → Option AV) (fid cb : Nat) (l : LoopC) : Prop :=
  ∀ (F : Fence) (n : Nat), Wide F → ∀ (w0 : Base), GlobOk gl w0.w → (w0.fs = fun g => P.funcs[g]?) →
  ∀ (c : Code), CodeAt w0.fs fid cb (.loop c) → ∀ (L : List LI) (M0 : List Nat) (outs : List (List Value)) (base : List Lp) (Γ : Ctx) (a : Act) (own : List Nat) (Q : Exit → Act → World → Prop) (x : l.sh.den) (y : ExDen l.ex), base.length = l.sh.lp.length → l.G x = some y →
    RelA F w0 L M0 outs (l.sh.enc base x) Γ a own → (∀ x' st' Γ' a' own', exitK base l.ex y (fun x st => some (x, st)) = some (x', st') → RelA F w0 L M0 outs st' Γ' a' own' → Q x'.toExit a' Γ'.w) →
    (Code.loop c).wpIn F n P Q a Γ.w
structure EnvOk (P : Program) (E : Env) (w0 : Base) : Prop where
  D : TabOk P E
  G : GlobOk E.glob w0.w
  T : ∀ g t, E.T g = some t → FnSpec P E.glob g t
  spec : ∀ g s, E.spec g = some s → SpecOk P E.glob g s
  pure : PureOk P E w0.w
  fs : w0.fs = fun g => P.funcs[g]?
  loops : ∀ fid cb ls, E.loops fid cb = some ls → ∀ l ∈ ls, LoopSpec P E.glob fid cb l
  nat : PureNat E
  F : ∀ g fn, E.F g = some fn → P.funcs[g]? = some fn ∧ (fn.name == "runtime.NumGoroutine") = false
  mixed : P.follows .mixedOrders = true
section
variable {P : Program} {E : Env} {w0 : Base} {ρ : Type} {r : ρ}
def RecSound (P : Program) (E : Env) (w0 : Base) (r : ρ) (N : Nat) (rec : Rec ρ) : Prop :=
  ∀ (F : Fence) (n : Nat) (L : List LI) (M0 : List Nat) (outs : List (List Value)) (fid cb : Nat) (code : Code) (st : St) (Γ : Ctx) (a : Act) (own : List Nat) (K : Ex → St → Option ρ) (Q : Exit → Act → World → Prop),
    Wide F → CodeAt w0.fs fid cb code → rec fid cb code st K = some r → RelA F w0 L M0 outs st Γ a own → PostOk F w0 L M0 outs K r Q →
    code.wpIn F n P Q a Γ.w ∧ ∀ c, code = .loop c → E.loops fid cb = none → LoopW F n P c Q N a Γ.w
def CallSound (P : Program) (w0 : Base) (r : ρ) (call : AV → List AV → St → (AV → St → Option ρ) → Option ρ) : Prop :=
  ∀ (F : Fence) (n : Nat) (L : List LI) (M0 : List Nat) (outs : List (List Value)) (f : AV) (fv : Value) (args : List AV) (us : List Value) (st : St) (Γ : Ctx) (a : Act) (own : List Nat) (q : AV → St → Option ρ),
    Wide F → call f args st q = some r → RelA F w0 L M0 outs st Γ a own → f.val Γ fv → AV.ones Γ args us →
    LeadsTo F n P (fun v w' => ∃ v' st' Γ', q v' st' = some r ∧ RelA F w0 L M0 outs st' Γ' a own ∧ v'.val Γ' v ∧ Γ'.w = w')
      ((match fv with
        | .func (.func g) _ _ => callFunc g us.toArray
        | .func (.yield l) _ _ => Instr.yield l us.toArray
        | _ => (throw "no function" : Sem Next)).run P Γ.w)
variable {F : Fence} {n : Nat} {L : List LI} {M0 : List Nat} {outs : List (List Value)} {st : St} {Γ : Ctx} {a : Act} {own : List Nat}
theorem RelA.put (h : RelA F w0 L M0 outs st Γ a own) {v : AV} {u : Value} (d : Option Tmp) (hv : v.val Γ u) : RelA F w0 L M0 outs (putDst st d v) Γ (a.put d u) own where
  rel := h.rel.put rfl d hv
  defers := by
    rw [← h.defers]
    cases d <;> rfl
  round := h.round
  inL := h.inL
theorem RelA.withTm (h : RelA F w0 L M0 outs st Γ a own) {st' : St} (hr : Rel w0 L (own ++ M0) outs st' Γ a.tmps) : RelA F w0 L M0 outs st' Γ a own := { h with rel := hr }
theorem operK_wp (hE : EnvOk P E w0) (hW : Wide F) {call : AV → List AV → St → (AV → St → Option ρ) → Option ρ} (hc : CallSound P w0 r call) {o : Oper} {q : St → Option ρ} (h : operK E call o st q = some r)
    (hr : RelA F w0 L M0 outs st Γ a own) {next : Act → World → Prop} {Q : Exit → Act → World → Prop} (hn : ∀ st' Γ' a', q st' = some r → RelA F w0 L M0 outs st' Γ' a' own → next a' Γ'.w) :
    o.wpIn F n P a Γ.w next Q := by
  unfold operK at h
  simp only [putK_eq, effK_eq] at h
  have hopd := hr.rel.opd rfl
  split at h
  · rename_i f args he
    obtain ⟨dst, op, ty, pos, after, grd⟩ := o
    simp only at he h
    unfold entersOf at he
    split at he
    · rename_i c
      obtain ⟨callee, cargs, aty⟩ := c
      have hnd : ∀ c, (Oper.mk dst (.call ⟨callee, cargs, aty⟩) ty pos after grd).op ≠ .defer c := by simp
      simp only at he
      split at he
      · rename_i x vs hv
        split at he
        · rename_i g fs cs hfn
          split at he
          · simp at he
          split at he
          · simp at he
          · simp only [Option.some.injEq, Prod.mk.injEq] at he
            obtain ⟨rfl, rfl⟩ := he
            obtain ⟨us, ws, e1, m1, m2⟩ := hopd _ _ hfn
            have m := ones_append (ones_append m1 (mapO_ones hopd hv)) m2
            have hs := hc F (n - 1) L M0 outs _ (.func (.func g) us.toArray ws.toArray) _ _ st Γ a own _ hW h hr ⟨us, ws, rfl, m1, m2⟩ m
            refine leads_wp hW hnd (w := Γ.w) (R := fun v w' => ∃ v' st' Γ', q (putDst st' dst v') = some r ∧ RelA F w0 L M0 outs st' Γ' a own ∧ v'.val Γ' v ∧ Γ'.w = w') ?_ (fun u w hR => ?_)
            · rw [exec_call_value e1]
              have e2 : (us ++ List.map a.eval cargs.toList ++ ws).toArray = us.toArray ++ cargs.map a.eval ++ ws.toArray := by
                apply Array.toList_inj.1
                simp
              rw [← e2]
              exact hs
            · obtain ⟨v', st', Γ', h1, h2, h3, rfl⟩ := hR
              exact hn _ _ _ h1 (h2.put dst h3)
        · rename_i l hfn
          simp only [Option.some.injEq, Prod.mk.injEq] at he
          obtain ⟨rfl, rfl⟩ := he
          obtain ⟨b, e1, hb⟩ := hopd _ _ hfn
          have hs := hc F (n - 1) L M0 outs _ (.func (.yield b) #[] #[]) _ _ st Γ a own _ hW h hr ⟨b, rfl, hb⟩ (mapO_ones hopd hv)
          refine leads_wp hW hnd (w := Γ.w) (R := fun v w' => ∃ v' st' Γ', q (putDst st' dst v') = some r ∧ RelA F w0 L M0 outs st' Γ' a own ∧ v'.val Γ' v ∧ Γ'.w = w') ?_ (fun u w hR => ?_)
          · have e3 : (execOp a.eval ⟨dst, .call ⟨.value x, cargs, aty⟩, ty, pos, after, grd⟩).run P Γ.w = (Instr.yield b (cargs.map a.eval)).run P Γ.w := by
              simp [execOp, resolve, Deferred.ofValue, e1, invoke]
            rw [e3, ← toArr]
            exact hs
          · obtain ⟨v', st', Γ', h1, h2, h3, rfl⟩ := hR
            exact hn _ _ _ h1 (h2.put dst h3)
        · simp at he
      · simp at he
    · simp at he
  · refine opK_wp hW hE.T hE.spec hE.pure hE.D hE.G hr.rel.good hopd (opd_global _) hr.rel.look hr.rel.fresh (fun _ i _ => hr.rel.freshAt i) h ?_
    intro v e u Γ' hq hv hle hσ hlb hg
    simp only at hq
    split at hq
    · rename_i hall
      simp only [List.all_eq_true] at hall
      have hr' := hr.rel.step hle hσ hlb hg (fun p hp => Nat.le_of_ble_eq_true (hall p hp))
      exact hn _ _ _ hq ({ hr with rel := hr' : RelA F w0 L M0 outs (st.eff e) Γ' a own }.put o.dst hv)
    · simp at hq
theorem opsK_wp (hE : EnvOk P E w0) (hW : Wide F) {call : AV → List AV → St → (AV → St → Option ρ) → Option ρ} (hc : CallSound P w0 r call) {ops : Array Oper} {q : St → Option ρ} {Q : Exit → Act → World → Prop}
    (hn : ∀ st' Γ' a', q st' = some r → RelA F w0 L M0 outs st' Γ' a' own → Q .normal a' Γ'.w) :
    ∀ (os : List Oper) (k : Nat) (st : St) (Γ : Ctx) (a : Act), (∀ i o, os[i]? = some o → ops[k + i]? = some o) → opsK E call ops os st q = some r → RelA F w0 L M0 outs st Γ a own →
      wpOpsIn F n P ops Q (List.range' k os.length) a Γ.w
  | [], k, st, Γ, a, _, h, hr => hn _ _ _ h hr
  | o :: os, k, st, Γ, a, hos, h, hr => by
    have ho : ops[k]? = some o := hos 0 o rfl
    have hos' : ∀ i o, os[i]? = some o → ops[k + 1 + i]? = some o := fun i o hi => by
      have := hos (i + 1) o (by simpa using hi)
      rwa [show k + (i + 1) = k + 1 + i by omega] at this
    simp only [List.length_cons, List.range'_succ, wpOpsIn, ho]
    unfold opsK at h
    simp only [putK_eq] at h
    obtain ⟨st', hr', hk⟩ := q4f hr.rel h
    rcases hk with ⟨hw, hk⟩ | ⟨hw, hk⟩
    · rw [if_pos hw]
      exact operK_wp hE hW hc hk (hr.withTm hr') fun st2 Γ2 a2 hq hr2 => opsK_wp hE hW hc hn os (k + 1) st2 Γ2 a2 hos' hq hr2
    · rw [hw]
      simp only [Bool.false_eq_true, if_false]
      exact ⟨fun f _ => hW.1 f, opsK_wp hE hW hc hn os (k + 1) _ Γ _ hos' hk ((hr.withTm hr').put o.dst undef_val)⟩
end
end Go.AV
end
section
set_option linter.unusedVariables false
set_option linter.unusedSimpArgs false
namespace Go.AV
open Go Go.RowKit
section
variable {P : Program} {E : Env} {w0 : Base} {ρ : Type} {r : ρ}
variable {F : Fence} {n : Nat} {L : List LI} {M M0 : List Nat} {outs : List (List Value)} {st : St} {Γ : Ctx} {a : Act} {own : List Nat} {tmps : Array Value}
theorem spL_get : ∀ {lps : List Lp} {L : List LI} {l : Nat} {x : Lp} {i : LI}, lps[l]? = some x → L[l]? = some i → (i.blk, i.obj x.st) ∈ spL lps L
  | [], _, _, _, _, h, _ => by simp at h
  | _ :: _, [], _, _, _, _, h => by simp at h
  | y :: ys, j :: js, 0, x, i, h1, h2 => by
    simp only [List.getElem?_cons_zero, Option.some.injEq] at h1 h2
    subst h1; subst h2
    simp [spL]
  | y :: ys, j :: js, l + 1, x, i, h1, h2 => by
    simp only [spL, List.mem_cons]
    exact .inr (spL_get (by simpa using h1) (by simpa using h2))
theorem spL_mem : ∀ {lps : List Lp} {L : List LI} {q : Nat × Obj}, q ∈ spL lps L → q.1 ∈ L.map (·.blk)
  | [], _, _, h => by simp [spL] at h
  | _ :: _, [], _, h => by simp [spL] at h
  | y :: ys, j :: js, q, h => by
    simp only [spL, List.mem_cons] at h
    rcases h with rfl | h
    · simp
    · have := spL_mem h
      simp only [List.map_cons, List.mem_cons]
      exact .inr this
theorem spL_set : ∀ {lps : List Lp} {L : List LI} {l : Nat} {y : Lp} {i : LI} {q : Nat × Obj}, (L.map (·.blk)).Nodup → L[l]? = some i → q ∈ spL (lps.set l y) L → q = (i.blk, i.obj y.st) ∨ (q ∈ spL lps L ∧ q.1 ≠ i.blk)
  | [], _, _, _, _, _, _, _, h => by simp [spL] at h
  | _ :: _, [], _, _, _, _, _, h, _ => by simp at h
  | x :: xs, j :: js, 0, y, i, q, hn, h2, h => by
    simp only [List.getElem?_cons_zero, Option.some.injEq] at h2
    subst h2
    simp only [List.set_cons_zero, spL, List.mem_cons] at h
    rcases h with rfl | h
    · exact .inl rfl
    · refine .inr ⟨by simp [spL, h], fun e => ?_⟩
      have := spL_mem h
      rw [e] at this
      simp only [List.map_cons, List.nodup_cons] at hn
      exact hn.1 this
  | x :: xs, j :: js, l + 1, y, i, q, hn, h2, h => by
    simp only [List.set_cons_succ, spL, List.mem_cons] at h
    simp only [List.map_cons, List.nodup_cons] at hn
    rcases h with rfl | h
    · refine .inr ⟨by simp [spL], fun e => hn.1 ?_⟩
      simp only at e
      rw [e]
      exact List.mem_map.2 ⟨i, List.mem_of_getElem? (by simpa using h2), rfl⟩
    · rcases spL_set hn.2 (by simpa using h2) h with h | ⟨h, h'⟩
      · exact .inl h
      · exact .inr ⟨by simp [spL, h], h'⟩
theorem all2_at {α β : Type} {R : α → β → Prop} : ∀ {l : List α} {m : List β} {i : Nat} {x : α}, All2 R l m → l[i]? = some x → ∃ y, m[i]? = some y ∧ R x y
  | _, _, _, _, .nil, h => by simp at h
  | _, _, 0, _, .cons h1 h2, h => by
    simp only [List.getElem?_cons_zero, Option.some.injEq] at h
    subst h
    exact ⟨_, rfl, h1⟩
  | _, _, i + 1, _, .cons h1 h2, h => by simpa using all2_at h2 (by simpa using h)
theorem all2_set {α β : Type} {R : α → β → Prop} : ∀ {l : List α} {m : List β} {i : Nat} {x : α} {y : β}, All2 R l m → m[i]? = some y → R x y → All2 R (l.set i x) m
  | _, _, _, _, _, .nil, h, _ => by simp at h
  | _, _, 0, _, _, .cons h1 h2, h, hr => by
    simp only [List.getElem?_cons_zero, Option.some.injEq] at h
    subst h
    exact .cons hr h2
  | _, _, i + 1, _, _, .cons h1 h2, h, hr => .cons h1 (all2_set h2 (by simpa using h) hr)
theorem Rel.record (h : Rel w0 L M outs st Γ tmps) {l : Nat} {x : Lp} {i : LI} (hx : st.lp[l]? = some x) (hi : L[l]? = some i) : Γ.w.heap[i.blk]? = some (i.obj x.st) :=
  (h.good.sp _ (List.mem_append.2 (.inl (spL_get hx hi)))).1
theorem Rel.setLp (h : Rel w0 L M outs st Γ tmps) {l : Nat} {x : Lp} {i : LI} (hx : st.lp[l]? = some x) (hi : L[l]? = some i) (s : LSt) :
    Rel w0 L M outs { st with lp := st.lp.set l { x with st := s } } { Γ with w := Γ.w.putObj i.blk (i.obj s) } tmps := by
  have hmem : (i.blk, i.obj x.st) ∈ spL st.lp L ++ spM M := List.mem_append.2 (.inl (spL_get hx hi))
  have hnd := h.nodup
  rw [List.nodup_append] at hnd
  obtain ⟨n1, n2, n3⟩ := hnd
  have hib : i.blk ∈ L.map (·.blk) := List.mem_map.2 ⟨i, List.mem_of_getElem? hi, rfl⟩
  obtain ⟨hle, hg⟩ := h.good.putObj (sp' := spL (st.lp.set l { x with st := s }) L ++ spM M) (o' := i.obj s) hmem (by intro C T f; simp [LI.obj]) (by
    intro q hq
    rcases List.mem_append.1 hq with hq | hq
    · rcases spL_set n1 hi hq with h | ⟨h, h'⟩
      · exact .inl h
      · exact .inr ⟨List.mem_append.2 (.inl h), h'⟩
    · refine .inr ⟨List.mem_append.2 (.inr hq), ?_⟩
      simp only [spM, List.mem_map] at hq
      obtain ⟨m, hm, rfl⟩ := hq
      exact (n3 i.blk hib m hm).symm)
  obtain ⟨y, hy, hR⟩ := all2_at h.lp hx
  rw [hi] at hy
  simp only [Option.some.injEq] at hy
  subst hy
  exact { σ := h.σ, tm := AV.ones_mono hle _ h.tm, out := qaw (fun _ _ h => AV.ones_mono hle _ h) h.out, lb := h.lb
          lp := qaw (fun _ _ h => ⟨h.1, h.2.1, h.2.2.1, AV.ones_mono hle _ h.2.2.2⟩) (all2_set h.lp hi hR)
          good := hg, nodup := h.nodup }
theorem Rel.unmark {m : Nat} (h : Rel w0 L (m :: M) outs st Γ tmps) : Γ.w.heap[m]? = some (.deferred (some [])) ∧ Rel w0 L M outs st { Γ with w := Γ.w.putObj m (.deferred none) } tmps := by
  have hmem : (m, Obj.deferred (some [])) ∈ spL st.lp L ++ spM (m :: M) := List.mem_append.2 (.inr (by simp [spM]))
  have hnd := h.nodup
  rw [List.nodup_append] at hnd
  obtain ⟨n1, n2, n3⟩ := hnd
  rw [List.nodup_cons] at n2
  obtain ⟨hle, hg⟩ := h.good.putObj (sp' := spL st.lp L ++ spM M) (o' := .deferred none) hmem (by intro C T f; simp) (by
    intro q hq
    rcases List.mem_append.1 hq with hq | hq
    · exact .inr ⟨List.mem_append.2 (.inl hq), n3 _ (spL_mem hq) m (by simp)⟩
    · refine .inr ⟨List.mem_append.2 (.inr (by simp only [spM, List.map_cons, List.mem_cons]; exact .inr hq)), ?_⟩
      simp only [spM, List.mem_map] at hq
      obtain ⟨k, hk, rfl⟩ := hq
      rintro rfl
      exact n2.1 hk)
  refine ⟨(h.good.sp _ hmem).1, { σ := h.σ, tm := AV.ones_mono hle _ h.tm, out := qaw (fun _ _ h => AV.ones_mono hle _ h) h.out, lb := h.lb
                                  lp := qaw (fun _ _ h => ⟨h.1, h.2.1, h.2.2.1, AV.ones_mono hle _ h.2.2.2⟩) h.lp
                                  good := hg, nodup := ?_ }⟩
  rw [List.nodup_append]
  exact ⟨n1, n2.2, fun x hx y hy => n3 x hx y (by simp [hy])⟩
theorem q4h {fn : Func} {R : Ending → World → Prop} : ∀ (own : List Nat) (Γ : Ctx), Rel w0 L (own ++ M) outs st Γ tmps → (∀ Γ', Rel w0 L M outs st Γ' tmps → LeavesIn F n P fn tmps R [] .returning Γ'.w) →
    LeavesInM F n P fn tmps R (own.map markOf) .returning Γ.w
  | [], Γ, h, hk => hk Γ h
  | m :: own, Γ, h, hk => by
    obtain ⟨h1, h2⟩ := Rel.unmark (M := own ++ M) h
    exact ⟨by simp, .inl ⟨m, _, rfl, run_takeDeferred h1, q4h own _ h2 hk⟩⟩
def resF (tmps : Array Value) : ResultVar → Sem Value
  | .tmp t => pure (tmps.getD t undef)
  | .cell a t => do loadVar t (← asAddr (tmps.getD a undef))
theorem results_eq (fn : Func) (tmps : Array Value) : results fn tmps = (do
    let vs ← fn.results.mapM (resF tmps)
    pure (if h : vs.size = 1 then vs[0] else .tuple vs)) := by
  unfold results
  congr 2
theorem q9v (hD : TabOk P E) (h : Rel w0 L M outs st Γ tmps) {x : ResultVar} {v : AV} (hv : resV E st x = some v) :
    ∃ u, (resF tmps x).run P Γ.w = .ok u Γ.w ∧ v.val Γ u := by
  cases x with
  | tmp t =>
    obtain ⟨u, h1, h2⟩ := ones_get h.tm hv
    rw [Array.getElem?_toList] at h1
    exact ⟨u, by simp [resF, h1], h2⟩
  | cell s T =>
    simp only [resV] at hv
    split at hv
    · rename_i i p hs
      split at hv
      · rename_i d e hd he
        split at hv
        · rename_i x hx
          split at hv
          · rename_i hc
            simp only [Bool.and_eq_true, decide_eq_true_eq] at hc
            simp only [Option.some.injEq] at hv
            subst hv
            obtain ⟨u, h1, h2⟩ := ones_get h.tm hs
            rw [Array.getElem?_toList] at h1
            have hσ := h.look i e he
            obtain ⟨b, o, q1, rfl, q3⟩ := locv_get hσ h2 hx
            obtain ⟨b', C, T', pre, us, post, k1, k2, k3, k4, k5⟩ := ent_get (h.good.ent i e hσ) hx q3
            rw [q1] at k1
            simp only [Option.some.injEq] at k1
            subst k1; subst k4
            have hlen : us.length = x.shp.size := AV.cells_len x k5
            have hl := run_loadVar_k (P := P) (hD _ _ hd) (cellsAt_blk k2 k3) (hlen.trans hc.1) (fun hf => by
              rw [hlen]; exact AV.size_notAgg (hc.2.trans hf))
            refine ⟨mk d.isAgg us, ?_, ?_⟩
            · simp [resF, h1, asAddr, hl]
            · rw [← hc.2]; exact cells_val k5
          · simp at hv
        · simp at hv
      · simp at hv
    · simp at hv
theorem q42 (hD : TabOk P E) (h : Rel w0 L M outs st Γ tmps) : ∀ {rs : List ResultVar} {vs : List AV}, mapO (resV E st) rs = some vs →
    ∃ us, (rs.mapM (resF tmps)).run P Γ.w = .ok us Γ.w ∧ AV.ones Γ vs us
  | [], vs, hv => by
    simp only [mapO, Option.some.injEq] at hv
    subst hv
    exact ⟨[], rfl, rfl⟩
  | x :: rs, vs, hv => by
    simp only [mapO] at hv
    split at hv
    · rename_i y ys h1 h2
      simp only [Option.some.injEq] at hv
      subst hv
      obtain ⟨u, k1, k2⟩ := q9v (P := P) hD h h1
      obtain ⟨us, m1, m2⟩ := q42 hD h h2
      refine ⟨u :: us, ?_, u, us, rfl, k2, m2⟩
      rw [List.mapM_cons, Sem.run_bind, k1]
      simp only [Result.andThen_ok]
      rw [Sem.run_bind, m1]
      rfl
    · simp at hv
theorem q5c (hD : TabOk P E) (h : Rel w0 L M outs st Γ tmps) {fn : Func} {v : AV} (hv : resAll E st fn.results.toList = some v) : ∃ u, (results fn tmps).run P Γ.w = .ok u Γ.w ∧ v.val Γ u := by
  rw [results_eq, Array.mapM_eq_mapM_toList]
  generalize fn.results.toList = rs at hv
  unfold resAll at hv
  split at hv
  · rename_i x
    obtain ⟨us, m1, m2⟩ := q42 (P := P) hD h (rs := [x]) (vs := [v]) (by simp [mapO, hv])
    obtain ⟨u, us', rfl, h1, h2⟩ := m2
    rw [show us' = [] from h2] at m1
    refine ⟨u, ?_, h1⟩
    simp only [Sem.run_bind, Sem.run_map]
    rw [m1]
    simp [Result.andThen]
  · rename_i hne
    simp only [Option.map_eq_some_iff] at hv
    obtain ⟨vs, h1, rfl⟩ := hv
    obtain ⟨us, m1, m2⟩ := q42 (P := P) hD h h1
    have hl : us.length ≠ 1 := by
      intro hl
      have e1 := ones_len m2
      have e2 : vs.length = rs.length := by
        clear hne m1 m2 e1 hl
        induction rs generalizing vs with
        | nil => simp [mapO] at h1; simp [h1]
        | cons x rs ih =>
          simp only [mapO] at h1
          split at h1
          · rename_i y ys q1 q2
            simp only [Option.some.injEq] at h1
            subst h1
            simp [ih _ q2]
          · simp at h1
      match rs, e2, hne with
      | [x], _, hne => exact hne x rfl
      | [], e2, _ => simp at e2; rw [e2] at e1; simp at e1; rw [e1] at hl; simp at hl
      | _ :: _ :: _, e2, _ => simp at e2; omega
    refine ⟨.tuple us.toArray, ?_, us, rfl, m2⟩
    simp only [Sem.run_bind, Sem.run_map]
    rw [m1]
    simp [Result.andThen, hl]
end
end Go.AV
end
section
set_option linter.unusedVariables false
set_option linter.unusedSimpArgs false
namespace Go.AV
open Go Go.RowKit
theorem pick_get (σ : List Ent) : ∀ {keep : List Nat}, (∀ k ∈ keep, k < σ.length) → ∀ (i : Nat), (pick σ keep)[i]? = (keep[i]?).bind fun (k : Nat) => σ[k]?
  | [], _, i => by simp [pick]
  | k :: ks, h, i => by
    have hk := h k (by simp)
    simp only [pick, List.getElem?_eq_getElem hk]
    cases i with
    | zero => simp [hk]
    | succ i => simpa using pick_get σ (fun k hk => h k (by simp [hk])) i
structure Ren (f : Nat → Option Nat) (n : Nat) (Γ Γ' : Ctx) : Prop extends Ren0 f n Γ Γ' where
  bwd : ∀ i e, Γ'.σ i = some e → ∃ k e0, f k = some i ∧ Γ.σ k = some e0 ∧ e = Ent.map (AV.ren f n) e0
  inj : ∀ k1 k2 i, f k1 = some i → f k2 = some i → k1 = k2
section
variable {f : Nat → Option Nat} {n : Nat} {Γ Γ' : Ctx}
theorem Ren.good (h : Ren f n Γ Γ') {w0 : Base} {sp : List (Nat × Obj)} (hg : Good w0 sp Γ) : Good w0 sp Γ' where
  ent := by
    intro i e hi
    obtain ⟨k, e0, h1, h2, rfl⟩ := h.bwd i e hi
    exact h.entRep h1 (hg.ent k e0 h2)
  inj := by
    intro i j e e' b h1 h2 h3 h4 h5 h6
    obtain ⟨k1, x1, a1, a2, rfl⟩ := h.bwd i e h1
    obtain ⟨k2, x2, c1, c2, rfl⟩ := h.bwd j e' h2
    rw [map_live] at h3 h4
    rw [(h.fwd _ _ a1).1] at h5
    rw [(h.fwd _ _ c1).1] at h6
    have := hg.inj k1 k2 x1 x2 b a2 c2 h3 h4 h5 h6
    subst this
    rw [a1] at c1
    simpa using c1
  base := by
    intro i e b h1 h2 h3
    obtain ⟨k1, x1, a1, a2, rfl⟩ := h.bwd i e h1
    rw [map_live] at h2
    rw [(h.fwd _ _ a1).1] at h3
    exact hg.base k1 x1 b a2 h2 h3
  okb := by rw [h.ok, h.w]; exact hg.okb
  below := by rw [h.w]; exact hg.below
  sp := by rw [h.w]; exact hg.sp
  okm := by rw [h.ok]; exact hg.okm
  okn := by rw [h.ok]; exact hg.okn
end
section
variable {w0 : Base} {L : List LI} {M : List Nat} {outs : List (List Value)} {st : St} {Γ : Ctx} {tmps : Array Value}
theorem spL_map (g : List AV → List AV) : ∀ (lps : List Lp) (L : List LI), spL (lps.map fun l => { l with tm := g l.tm }) L = spL lps L
  | [], _ => rfl
  | _ :: _, [] => rfl
  | x :: xs, i :: is => by simp only [List.map_cons, spL]; rw [spL_map g xs is]
theorem all2_map_left {α β γ : Type} {R : α → β → Prop} {g : γ → α} : ∀ {l : List γ} {m : List β}, All2 (fun x y => R (g x) y) l m → All2 R (l.map g) m
  | _, _, .nil => .nil
  | _, _, .cons h1 h2 => .cons h1 (all2_map_left h2)
theorem Rel.sel (h : Rel w0 L M outs st Γ tmps) {keep : List Nat} (hn : keep.Nodup) (hk : ∀ k ∈ keep, k < st.σ.length) :
    ∃ Γ', Γ'.w = Γ.w ∧ Rel w0 L M outs (st.sel keep) Γ' tmps ∧ ∀ v u, AV.val Γ v u → AV.val Γ' (v.ren (posIn keep) st.lp.length) u := by
  let Γ' : Ctx := ⟨Γ.w, Γ.ok, fun i => (keep[i]?).bind Γ.β, fun i => (st.sel keep).σ[i]?, Γ.lb⟩
  have hσ : ∀ i, Γ'.σ i = ((keep[i]?).bind fun k => st.σ[k]?).map (Ent.map (AV.ren (posIn keep) st.lp.length)) := by
    intro i
    simp only [Γ', St.sel, St.map, List.getElem?_map]
    rw [pick_get st.σ hk i]
  have hren : Ren (posIn keep) st.lp.length Γ Γ' := by
    refine ⟨⟨rfl, rfl, fun _ _ _ h => h, fun k i hi => ?_⟩, fun i e he => ?_, fun k1 k2 i h1 h2 => ?_⟩
    · have hg := posIn_some hi
      refine ⟨by simp [Γ', hg], ?_⟩
      rw [hσ, hg, h.σ]
      rfl
    · rw [hσ] at he
      cases hki : keep[i]? with
      | none => rw [hki] at he; simp at he
      | some k =>
        rw [hki] at he
        simp only [Option.bind_some, Option.map_eq_some_iff] at he
        obtain ⟨e0, h1, h2⟩ := he
        refine ⟨k, e0, ?_, by rw [h.σ]; exact h1, h2.symm⟩
        have hex : ∀ (l : List Nat) (n m : Nat), l[m]? = some k → ∃ j, posGo k l n = some j := by
          intro l
          induction l with
          | nil => intro n m hm; simp at hm
          | cons x xs ih =>
            intro n m hm
            simp only [posGo]
            split
            · exact ⟨_, rfl⟩
            · cases m with
              | zero =>
                rename_i hx
                simp only [List.getElem?_cons_zero, Option.some.injEq] at hm
                subst hm
                simp at hx
              | succ m => exact ih (n + 1) m (by simpa using hm)
        obtain ⟨j, hj⟩ := hex keep 0 i hki
        have hj' : posIn keep k = some j := hj
        have hkj := posIn_some hj'
        have hlt : i < keep.length := (List.getElem?_eq_some_iff.1 hki).1
        have : i = j := (List.getElem?_inj hlt hn).1 (hki.trans hkj.symm)
        rw [this]; exact hj'
    · have a1 := posIn_some h1
      have a2 := posIn_some h2
      rw [a1] at a2
      simpa using a2
  refine ⟨Γ', rfl, ?_, fun v u hv => hren.val v hv⟩
  refine { σ := rfl, tm := ?_, out := ?_, lb := h.lb, lp := ?_, good := ?_, nodup := h.nodup }
  · have := hren.ones st.tm h.tm
    rw [renL_map] at this
    exact this
  · refine all2_map_left (qaw (fun x y hxy => ?_) h.out)
    have := hren.ones x hxy
    rw [renL_map] at this
    exact this
  · refine all2_map_left (qaw (fun x y hxy => ⟨hxy.1, hxy.2.1, hxy.2.2.1, ?_⟩) h.lp)
    have := hren.ones x.tm hxy.2.2.2
    rw [renL_map] at this
    exact this
  · have := hren.good h.good
    simp only [St.sel, St.map]
    rw [spL_map]
    exact this
theorem Rel.gcV (h : Rel w0 L M outs st Γ tmps) (lim : Nat) {v : AV} {u : Value} (hv : v.val Γ u) :
    ∃ Γ', Γ'.w = Γ.w ∧ Rel w0 L M outs (AV.gcV lim v st).2 Γ' tmps ∧ AV.val Γ' (AV.gcV lim v st).1 u := by
  unfold AV.gcV
  split
  · exact ⟨Γ, rfl, h, hv⟩
  · obtain ⟨Γ', h1, h2, h3⟩ := h.sel (keep := (List.range st.σ.length).filter fun i => Nat.testBit (st.marks (v.marks 0)) i) (List.nodup_range.filter _) (fun k hk => by
      have := (List.mem_filter.1 hk).1
      simpa using this)
    exact ⟨Γ', h1, h2, h3 v u hv⟩
end
end Go.AV
end
section
set_option linter.unusedVariables false
set_option linter.unusedSimpArgs false
namespace Go.AV
open Go Go.RowKit
section
variable {P : Program} {E : Env} {w0 : Base} {ρ : Type} {r : ρ}
variable {F : Fence} {n : Nat} {L : List LI} {M M0 : List Nat} {outs : List (List Value)} {st : St} {Γ : Ctx} {a : Act} {own : List Nat} {tmps : Array Value}
theorem ones_junk (Γ : Ctx) : ∀ (k : Nat), AV.ones Γ (List.replicate k .junk) (List.replicate k undef)
  | 0 => rfl
  | k + 1 => ⟨undef, List.replicate k undef, rfl, trivial, ones_junk Γ k⟩
def Back (w0 : Base) (r : ρ) (F : Fence) (L : List LI) (M0 : List Nat) (outs : List (List Value)) (a : Act) (own : List Nat) (q : AV → St → Option ρ) (v : Value) (w : World) : Prop :=
  ∃ v' st' Γ', q v' st' = some r ∧ RelA F w0 L M0 outs st' Γ' a own ∧ v'.val Γ' v ∧ Γ'.w = w
theorem qy0 (hE : EnvOk P E w0) (hW : Wide F) {N : Nat} {rec : Rec ρ} (hrec : RecSound P E w0 r N rec) {f : FuncId} {args : List AV} {us : List Value} {q : AV → St → Option ρ} (h : enterK E rec f args st q = some r)
    (hr : RelA F w0 L M0 outs st Γ a own) (ha : AV.ones Γ args us) :
    (∀ asg : Array Value, (callFunc f asg).run P Γ.w = .ok (.enter f asg) Γ.w) ∧ CallsIn F n P f us.toArray Γ.w fun
      | .returned v, w => Back w0 r F L M0 outs a own q v w
      | _, _ => False := by
  unfold enterK at h
  split at h
  · simp at h
  · rename_i fn hf
    obtain ⟨hfn, hname⟩ := hE.F f fn hf
    split at h
    · simp at h
    · rename_i c hb
      split at h
      · rename_i hlen
        have hname' : ¬ fn.name = "runtime.NumGoroutine" := by simpa using hname
        refine ⟨fun asg => by simp [callFunc, hfn, hname', hb], ?_⟩
        show CallsIn F.plain n P f us.toArray Γ.w _
        refine callsIn_of_wp_marks hfn hb (hW.1 f) ?_ rfl
        have hl := ones_len ha
        have hrel : RelA F.plain w0 L (own ++ M0) (a.tmps.toList :: outs) { st with tm := args ++ List.replicate (fn.ntmps - args.length) .junk, out := st.tm :: st.out } Γ
            ⟨us.toArray ++ Array.replicate (fn.ntmps - us.toArray.size) undef, []⟩ [] := by
          refine ⟨{ hr.rel with tm := ?_, out := .cons hr.rel.tm hr.rel.out }, rfl, fun _ => rfl, fun l h => by simp [Fence.plain] at h⟩
          simp only [Array.toList_append, Array.toList_replicate, List.size_toArray]
          rw [hl]
          exact ones_append ha (ones_junk Γ _)
        refine (hrec F.plain n L (own ++ M0) (a.tmps.toList :: outs) f 0 c _ Γ _ [] _ _ hW ⟨fn, c, by rw [hE.fs]; exact hfn, hb, .root⟩ h hrel ?_).1
        intro x st1 Γ1 a1 own1 hK hr1
        have key : (match resAll E st1 fn.results.toList, st1.out with
            | some v, tm :: out => q (gcV (st.σ.length + 8) v { st1 with tm, out }).1 (gcV (st.σ.length + 8) v { st1 with tm, out }).2
            | _, _ => none) = some r → LeavesInM F.plain n P fn a1.tmps (fun
              | .returned v, w => Back w0 r F L M0 outs a own q v w
              | _, _ => False) a1.defers .returning Γ1.w := by
          intro hK
          split at hK
          · rename_i v tm out hv hout
            rw [hr1.defers]
            refine q4h own1 Γ1 hr1.rel fun Γ2 hr2 => ?_
            obtain ⟨u, k1, k2⟩ := q5c (P := P) hE.D hr2 hv
            have ho := hr2.out
            rw [hout] at ho
            cases ho with
            | cons h1 h2 =>
              have hr3 : Rel w0 L (own ++ M0) outs { st1 with tm, out } Γ2 a.tmps := { hr2 with tm := h1, out := h2 }
              obtain ⟨Γ3, g1, g2, g3⟩ := hr3.gcV (st.σ.length + 8) k2
              exact ⟨u, k1, _, _, Γ3, hK, ⟨g2, hr.defers, hr.round, hr.inL⟩, g3, g1⟩
          · simp at hK
        cases x with
        | normal => exact key hK
        | ret => exact key hK
        | exit id => simp at hK
      · simp at h
theorem q1h : ∀ {ps : List Nat} {tm tm' : List AV} {ts : Array Value} {vs : List AV} {us : List Value}, setParams tm ps vs = some tm' → AV.ones Γ tm ts.toList → AV.ones Γ vs us →
    ps.length = us.length ∧ AV.ones Γ tm' ((ps.zip us).foldl (fun (ts : Array Value) (p : Nat × Value) => ts.setIfInBounds p.1 p.2) ts).toList
  | [], tm, tm', ts, vs, us, h, h1, h2 => by
    cases vs with
    | nil =>
      simp only [setParams, Option.some.injEq] at h
      subst h
      rw [show us = [] from h2]
      exact ⟨rfl, h1⟩
    | cons v vs => simp [setParams] at h
  | p :: ps, tm, tm', ts, vs, us, h, h1, h2 => by
    cases vs with
    | nil => simp [setParams] at h
    | cons v vs =>
      obtain ⟨u, us', rfl, hu, hus⟩ := h2
      simp only [setParams] at h
      have hset : AV.ones Γ (tm.set p v) (ts.setIfInBounds p u).toList := by
        rw [Array.toList_setIfInBounds]
        exact ones_set p h1 hu
      obtain ⟨k1, k2⟩ := q1h h hset hus
      exact ⟨by simp [k1], k2⟩
theorem q5e (hE : EnvOk P E w0) (hW : Wide F) {N : Nat} {rec : Rec ρ} (hrec : RecSound P E w0 r N rec) {l b : Nat} {args : List AV} {us : List Value} {q : AV → St → Option ρ} (h : yieldK rec l args st q = some r)
    (hr : RelA F w0 L M0 outs st Γ a own) (hb : Γ.lb[l]? = some b) (ha : AV.ones Γ args us) :
    LeadsTo F n P (Back w0 r F L M0 outs a own q) ((Instr.yield b us.toArray).run P Γ.w) := by
  unfold yieldK at h
  split at h
  · simp at h
  · rename_i x hx
    split at h
    · rename_i tm hst htm
      obtain ⟨i, hi, p1, p2, p3, p4⟩ := all2_at hr.rel.lp hx
      have hbi : i.blk = b := by
        rw [hr.rel.lb] at hb
        simp only [List.getElem?_map, hi, Option.map_some, Option.some.injEq] at hb
        exact hb
      subst hbi
      have hrec0 := hr.rel.record hx hi
      rw [hst] at hrec0
      obtain ⟨p1, g0, qs0, hqs, fn0, b0, hat1, hat2, hat3⟩ := p1
      rw [p1] at htm
      obtain ⟨q1, q2⟩ := q1h (ts := i.tmps.toArray) htm (by simpa using p4) ha
      have hy := run_yield (P := P) (args := us.toArray) (show Γ.w.heap[i.blk]? = some (.loop { state := .ready, pending := none, fn := i.fn, tmps := i.tmps.toArray, params := i.params.toArray, assign := i.assign, body := i.body, defers := i.dfr }) from hrec0) (by simp [q1])
      rw [hy]
      have hin : ∃ j ∈ L, j.blk = i.blk := ⟨i, List.mem_of_getElem? hi, rfl⟩
      refine roundIn_of_wpIn (hW.1 _) ?_
      have efold : ((i.params.toArray.zip us.toArray).foldl (fun (tmps : Array Value) (p : Nat × Value) => tmps.setIfInBounds p.1 p.2) i.tmps.toArray) = ((i.params.zip us).foldl (fun (ts : Array Value) (p : Nat × Value) => ts.setIfInBounds p.1 p.2) i.tmps.toArray) := by
        rw [← Array.foldl_toList]
        simp
      have hrel : RelA (F.inRound i.blk) w0 L (own ++ M0) (a.tmps.toList :: outs) { st with tm := tm, out := st.tm :: st.out } Γ ⟨(i.params.zip us).foldl (fun (ts : Array Value) (p : Nat × Value) => ts.setIfInBounds p.1 p.2) i.tmps.toArray, []⟩ [] :=
        ⟨{ hr.rel with tm := q2, out := .cons hr.rel.tm hr.rel.out }, rfl, fun _ => rfl, fun l' h' => by
          simp only [Fence.inRound_round, Option.some.injEq] at h'
          subst h'; exact hin⟩
      rw [p2] at h
      refine (hrec (F.inRound i.blk) n L (own ++ M0) (a.tmps.toList :: outs) _ _ i.assign _ Γ ⟨_, []⟩ [] _ _ hW ⟨fn0, b0, hat1, hat2, by rw [← p2]; exact .rfA hat3⟩ h (by rw [← efold] at hrel; exact hrel) ?_).1
      intro e st1 Γ1 a1 own1 hK hr1
      simp only at hK
      split at hK
      · rename_i x1 hx1
        split at hK
        · rename_i hst1
          have hown1 : own1 = [] := hr1.round rfl
          subst hown1
          have hrec1 := hr1.rel.record hx1 hi
          rw [hst1] at hrec1
          have hbegin := run_beginRound (P := P) (show Γ1.w.heap[i.blk]? = some (.loop { state := .ready, pending := none, fn := i.fn, tmps := i.tmps.toArray, params := i.params.toArray, assign := i.assign, body := i.body, defers := i.dfr }) from hrec1) rfl
          refine ⟨_, hbegin, ?_⟩
          have hr2 : RelA (F.inRound i.blk) w0 L (own ++ M0) (a.tmps.toList :: outs) { st1 with lp := st1.lp.set l { x1 with st := .busy } } { Γ1 with w := Γ1.w.putObj i.blk (i.obj .busy) } a1 [] :=
            ⟨hr1.rel.setLp hx1 hi .busy, hr1.defers, fun _ => rfl, hr1.inL⟩
          obtain ⟨j, hj, _, _, pb, _⟩ := all2_at hr1.rel.lp hx1
          have pbody : x.body = i.body := p3
          rw [pbody] at hK
          refine (hrec (F.inRound i.blk) n L (own ++ M0) (a.tmps.toList :: outs) _ _ i.body _ { Γ1 with w := Γ1.w.putObj i.blk (i.obj .busy) } a1 [] _ _ hW ⟨fn0, b0, hat1, hat2, by rw [← p3]; exact .rfB hat3⟩ hK hr2 ?_).1
          intro e2 st3 Γ3 a3 own3 hK3 hr3
          simp only at hK3
          split at hK3
          · rename_i tm3 out3 x3 hout3 hx3
            have hown3 : own3 = [] := hr3.round rfl
            subst hown3
            have hrec3 := hr3.rel.record hx3 hi
            have hback : ∀ (s : LSt), RelA F w0 L M0 outs { st3 with tm := tm3, out := out3, lp := st3.lp.set l { x3 with st := s } } { Γ3 with w := Γ3.w.putObj i.blk (i.obj s) } a own := by
              intro s
              have h3 := hr3.rel.setLp hx3 hi s
              have ho := h3.out
              simp only [hout3] at ho
              cases ho with
              | cons h1 h2 => exact ⟨{ h3 with tm := h1, out := h2 }, hr.defers, hr.round, hr.inL⟩
            have hobj : ∃ rr : Loop, Γ3.w.heap[i.blk]? = some (.loop rr) ∧ rr.fn = i.fn ∧ rr.tmps = i.tmps.toArray ∧ rr.params = i.params.toArray ∧ rr.assign = i.assign ∧ rr.body = i.body ∧ rr.defers = i.dfr := ⟨_, hrec3, rfl, rfl, rfl, rfl, rfl, rfl⟩
            obtain ⟨⟨s1, s2, s3, s4, s5, s6, s7, s8⟩, hh, e3, e4, e5, e6, e7, e8⟩ := hobj
            simp only at e3 e4 e5 e6 e7 e8
            subst e3; subst e4; subst e5; subst e6; subst e7; subst e8
            cases e2 with
            | normal =>
              exact ⟨_, _, run_endRound none hh, .dat .bool true, _, _, hK3, hback .ready, val_bool.2 rfl, rfl⟩
            | ret =>
              exact ⟨_, _, run_endRound (some .ret) hh, .dat .bool false, _, _, hK3, hback (.done .ret), val_bool.2 rfl, rfl⟩
            | exit id =>
              exact ⟨_, _, run_endRound (some (.exit id)) hh, .dat .bool false, _, _, hK3, hback (.done (.exit id)), val_bool.2 rfl, rfl⟩
          · simp at hK3
        · simp at hK
      · simp at hK
    · simp at h
theorem callK_sound (hE : EnvOk P E w0) {N : Nat} {rec : Rec ρ} (hrec : RecSound P E w0 r N rec) : CallSound P w0 r (callK E rec) := by
  intro F n L M0 outs f fv args us st Γ a own q hW h hr hf ha
  unfold callK at h
  split at h
  · obtain ⟨us', ws, rfl, _⟩ := hf
    obtain ⟨h1, h2⟩ := qy0 (n := n) hE hW hrec h hr ha
    simp only [h1]
    exact h2
  · obtain ⟨b, rfl, hb⟩ := hf
    exact q5e hE hW hrec h hr hb ha
  · simp at h
end
end Go.AV
end
section
set_option linter.unusedVariables false
set_option linter.unusedSimpArgs false
namespace Go.AV
open Go Go.RowKit
section
variable {P : Program} {E : Env} {w0 : Base} {L : List LI} {M : List Nat} {outs : List (List Value)} {st : St} {Γ : Ctx} {tmps : Array Value}
theorem spL_append : ∀ {lps : List Lp} {L : List LI} (l2 : List Lp) (L2 : List LI), lps.length = L.length → spL (lps ++ l2) (L ++ L2) = spL lps L ++ spL l2 L2
  | [], [], _, _, _ => rfl
  | [], _ :: _, _, _, h => by simp at h
  | _ :: _, [], _, _, h => by simp at h
  | x :: xs, i :: is, l2, L2, h => by
    simp only [List.cons_append, spL, List.cons.injEq, true_and]
    exact spL_append l2 L2 (by simpa using h)
theorem all2_split {α β : Type} {R : α → β → Prop} : ∀ {l : List α} {m m2 : List β}, All2 R l (m ++ m2) → All2 R (l.take m.length) m
  | l, [], _, _ => by simpa using All2.nil
  | [], _ :: _, _, h => by cases h
  | x :: xs, y :: ys, m2, h => by
    cases h with
    | cons h1 h2 => exact .cons h1 (all2_split h2)
theorem Rel.endLp {i : LI} (h : Rel w0 (L ++ [i]) M outs st Γ tmps) (o : Obj) : ∃ Γ', Γ'.w = Γ.w.putObj i.blk o ∧ Rel w0 L M outs (st.cutLp L.length) Γ' tmps := by
  have hlen : st.lp.length = L.length + 1 := by simpa using all2_len h.lp
  obtain ⟨x, hx⟩ : ∃ x, st.lp = st.lp.take L.length ++ [x] := by
    refine ⟨st.lp[L.length]'(by omega), ?_⟩
    conv => lhs; rw [← List.take_append_drop L.length st.lp]
    congr 1
    apply List.ext_getElem
    · simp [hlen]
    · intro k h1 h2
      simp only [List.length_singleton] at h2
      have : k = 0 := by omega
      subst this
      simp
  have htl : (st.lp.take L.length).length = L.length := by simp [hlen]
  have hsp : spL st.lp (L ++ [i]) = spL (st.lp.take L.length) L ++ [(i.blk, i.obj x.st)] := by
    conv => lhs; rw [hx]
    rw [spL_append _ _ htl]
    rfl
  have hnd := h.nodup
  simp only [List.map_append, List.map_cons, List.map_nil, List.nodup_append, List.nodup_cons, List.mem_cons, List.not_mem_nil, or_false, List.mem_append] at hnd
  obtain ⟨⟨n1, _, n3⟩, n4, n5⟩ := hnd
  have hmem : (i.blk, i.obj x.st) ∈ spL st.lp (L ++ [i]) ++ spM M := by rw [hsp]; simp
  obtain ⟨hle, hg⟩ := h.good.putObj (sp' := spL (st.lp.take L.length) L ++ spM M) (o' := o) hmem (by intro C T f; simp [LI.obj]) (by
    intro q hq
    refine .inr ⟨?_, ?_⟩
    · rw [hsp]
      rcases List.mem_append.1 hq with hq | hq
      · simp [hq]
      · simp [hq]
    · rcases List.mem_append.1 hq with hq | hq
      · exact n3 _ (spL_mem hq) _ rfl
      · simp only [spM, List.mem_map] at hq
        obtain ⟨m, hm, rfl⟩ := hq
        exact (n5 i.blk (.inr rfl) m hm).symm)
  let Γ1 : Ctx := { Γ with w := Γ.w.putObj i.blk o }
  let Γ' : Ctx := ⟨Γ1.w, Γ1.ok, Γ1.β, fun k => (st.cutLp L.length).σ[k]?, Γ1.lb.take L.length⟩
  have hσ : ∀ k, Γ'.σ k = (Γ1.σ k).map (Ent.map (AV.ren some L.length)) := by
    intro k
    simp only [Γ', Γ1, St.cutLp, St.map, List.getElem?_map]
    rw [h.σ]
  have hren : Ren some L.length Γ1 Γ' := by
    refine ⟨⟨rfl, rfl, fun l b hl hb => ?_, fun k j hj => ?_⟩, fun j e he => ?_, fun k1 k2 j h1 h2 => ?_⟩
    · simp only [Γ']
      rw [List.getElem?_take_of_lt hl]; exact hb
    · simp only [Option.some.injEq] at hj
      subst hj
      exact ⟨rfl, hσ k⟩
    · rw [hσ] at he
      simp only [Option.map_eq_some_iff] at he
      obtain ⟨e0, h1, h2⟩ := he
      exact ⟨j, e0, rfl, h1, h2.symm⟩
    · simp only [Option.some.injEq] at h1 h2
      omega
  refine ⟨Γ', rfl, { σ := rfl, tm := ?_, out := ?_, lb := ?_, lp := ?_, good := ?_, nodup := ?_ }⟩
  · have := hren.ones st.tm (AV.ones_mono hle _ h.tm)
    rw [renL_map] at this
    exact this
  · refine all2_map_left (qaw (fun x y hxy => ?_) h.out)
    have := hren.ones x (AV.ones_mono hle _ hxy)
    rw [renL_map] at this
    exact this
  · simp only [Γ', Γ1, h.lb, List.map_append, List.map_cons, List.map_nil]
    rw [List.take_left' (by simp)]
  · refine all2_map_left (qaw (fun x y hxy => ⟨hxy.1, hxy.2.1, hxy.2.2.1, ?_⟩) (all2_split h.lp))
    have := hren.ones x.tm (AV.ones_mono hle _ hxy.2.2.2)
    rw [renL_map] at this
    exact this
  · have := hren.good hg
    simp only [St.cutLp, St.map]
    rw [spL_map]
    exact this
  · rw [List.nodup_append]
    exact ⟨n1, n4, fun a ha b hb => n5 a (.inl ha) b hb⟩
end
end Go.AV
end
section
set_option linter.unusedVariables false
set_option linter.unusedSimpArgs false
namespace Go.AV
open Go Go.RowKit
theorem beqNats_eq : ∀ {l m : List Nat}, beqNats l m = true → l = m
  | [], [], _ => rfl
  | [], _ :: _, h => by simp [beqNats] at h
  | _ :: _, [], h => by simp [beqNats] at h
  | a :: l, b :: m, h => by
    simp only [beqNats, Bool.and_eq_true] at h
    rw [Nat.eq_of_beq_eq_true h.1, beqNats_eq h.2]
theorem fldPath_some : ∀ {p : List Step} {q : List Nat}, fldPath p = some q → q.map .fld = p
  | [], q, h => by simp only [fldPath, Option.some.injEq] at h; subst h; rfl
  | .fld k :: p, q, h => by
    simp only [fldPath, Option.map_eq_some_iff] at h
    obtain ⟨q', h1, rfl⟩ := h
    simp [fldPath_some h1]
  | .idx _ :: _, q, h => by simp [fldPath] at h
theorem castTy_dat {t t' : Ty} {x : t'.den} {y : t.den} (h : castTy t t' x = some y) : AV.dat t y = AV.dat t' x := by
  obtain ⟨rfl, rfl⟩ := castTy_some h
  rfl
theorem castTy_ref {t t' : Ty} {x : t'.den} {y : t.den} (h : castTy t t' x = some y) : AV.ref t y = AV.ref t' x := by
  obtain ⟨rfl, rfl⟩ := castTy_some h
  rfl
mutual
theorem VSh.dec_enc : ∀ (s : VSh) (v : AV) (ts : List Ty) (r : denTs ts) (x : denTs (s.ts ts)), s.dec v ts r = some x → s.enc ts x = (v, r)
  | .dat t, v, ts, r, x, h => by
    unfold VSh.dec at h
    split at h
    · split at h
      · rename_i y hy
        obtain rfl := Option.some.inj h
        show (AV.dat t y, r) = _
        rw [castTy_dat hy]
      · simp at h
    · simp at h
  | .ref t, v, ts, r, x, h => by
    unfold VSh.dec at h
    split at h
    · split at h
      · rename_i y hy
        obtain rfl := Option.some.inj h
        show (AV.ref t y, r) = _
        rw [castTy_ref hy]
      · simp at h
    · simp at h
  | .own i t, v, ts, r, x, h => by
    unfold VSh.dec at h
    split at h
    · split at h
      · rename_i hij
        have h' : r = x := Option.some.inj h
        subst h'
        rw [Nat.eq_of_beq_eq_true hij]; rfl
      · simp at h
    · simp at h
  | .loc i p, v, ts, r, x, h => by
    unfold VSh.dec at h
    split at h
    · split at h
      · rename_i q hij hq
        split at h
        · rename_i hpq
          have h' : r = x := Option.some.inj h
          subst h'
          show (AV.loc i (p.map .fld), r) = _
          rw [Nat.eq_of_beq_eq_true hij, beqNats_eq hpq, fldPath_some hq]
        · simp at h
      · simp at h
    · simp at h
  | .agg xs, v, ts, r, x, h => by
    cases v with
    | agg vs => exact congrArg (fun p => (AV.agg p.1, p.2)) (VSh.decL_enc xs vs ts r x h)
    | _ => exact nomatch (show (none : Option (denTs ((VSh.agg xs).ts ts))) = some x from h)
  | .fn f fs cs, v, ts, r, x, h => by
    unfold VSh.dec at h
    split at h
    · split at h
      · rename_i hf
        split at h
        · rename_i r' hr'
          have h1 := VSh.decL_enc fs _ _ r' x h
          have h2 := VSh.decL_enc cs _ ts r r' hr'
          show ((AV.fn f (VSh.encL fs (VSh.tsL cs ts) x).1 (VSh.encL cs ts (VSh.encL fs (VSh.tsL cs ts) x).2).1), (VSh.encL cs ts (VSh.encL fs (VSh.tsL cs ts) x).2).2) = _
          rw [h1]
          simp only
          rw [h2, Nat.eq_of_beq_eq_true hf]
        · simp at h
      · simp at h
    · simp at h
  | .nils, v, ts, r, x, h => by
    unfold VSh.dec at h
    split at h
    · have h' : r = x := Option.some.inj h
      subst h'; rfl
    · simp at h
  | .nilp, v, ts, r, x, h => by
    unfold VSh.dec at h
    split at h
    · have h' : r = x := Option.some.inj h
      subst h'; rfl
    · simp at h
  | .nilf, v, ts, r, x, h => by
    unfold VSh.dec at h
    split at h
    · have h' : r = x := Option.some.inj h
      subst h'; rfl
    · simp at h
  | .yld l, v, ts, r, x, h => by
    unfold VSh.dec at h
    split at h
    · split at h
      · rename_i hij
        have h' : r = x := Option.some.inj h
        subst h'
        rw [Nat.eq_of_beq_eq_true hij]; rfl
      · simp at h
    · simp at h
  | .junk, v, ts, r, x, h => by
    unfold VSh.dec at h
    split at h
    · have h' : r = x := Option.some.inj h
      subst h'; rfl
    · simp at h
theorem VSh.decL_enc : ∀ (s : List VSh) (v : List AV) (ts : List Ty) (r : denTs ts) (x : denTs (VSh.tsL s ts)), VSh.decL s v ts r = some x → VSh.encL s ts x = (v, r)
  | [], v, ts, r, x, h => by
    unfold VSh.decL at h
    split at h
    · have h' : r = x := Option.some.inj h
      subst h'; rfl
    · simp at h
  | s :: ss, v, ts, r, x, h => by
    unfold VSh.decL at h
    split at h
    · split at h
      · rename_i r' hr'
        have h1 := VSh.dec_enc s _ _ r' x h
        have h2 := VSh.decL_enc ss _ ts r r' hr'
        simp only [VSh.encL]
        rw [h1]
        simp only
        rw [h2]
      · simp at h
    · simp at h
end
theorem VSh.decLL_enc : ∀ (s : List (List VSh)) (v : List (List AV)) (ts : List Ty) (r : denTs ts) (x : denTs (VSh.tsLL s ts)), VSh.decLL s v ts r = some x → VSh.encLL s ts x = (v, r)
  | [], v, ts, r, x, h => by
    unfold VSh.decLL at h
    split at h
    · have h' : r = x := Option.some.inj h
      subst h'; rfl
    · simp at h
  | s :: ss, v, ts, r, x, h => by
    unfold VSh.decLL at h
    split at h
    · split at h
      · rename_i r' hr'
        have h1 := VSh.decL_enc s _ _ r' x h
        have h2 := VSh.decLL_enc ss _ ts r r' hr'
        simp only [VSh.encLL]
        rw [h1]
        simp only
        rw [h2]
      · simp at h
    · simp at h
theorem ESh.decL_enc : ∀ (s : List ESh) (v : List Ent) (ts : List Ty) (r : denTs ts) (x : denTs (ESh.tsL s ts)), ESh.decL s v ts r = some x → ESh.encL s ts x = (v, r)
  | [], v, ts, r, x, h => by
    unfold ESh.decL at h
    split at h
    · have h' : r = x := Option.some.inj h
      subst h'; rfl
    · simp at h
  | .dead :: es, v, ts, r, x, h => by
    cases v with
    | nil => exact nomatch (show (none : Option (denTs (ESh.tsL (.dead :: es) ts))) = some x from h)
    | cons v vs =>
      cases v with
      | dead => exact congrArg (fun p => (Ent.dead :: p.1, p.2)) (ESh.decL_enc es vs ts r x h)
      | _ => exact nomatch (show (none : Option (denTs (ESh.tsL (.dead :: es) ts))) = some x from h)
  | .box p v :: es, u, ts, r, x, h => by
    unfold ESh.decL at h
    split at h
    · split at h
      · rename_i r' hr'
        split at h
        · rename_i hp
          have h1 := VSh.dec_enc v _ _ r' x h
          have h2 := ESh.decL_enc es _ ts r r' hr'
          simp only [ESh.encL]
          rw [h1]
          simp only
          rw [h2, eq_of_beq hp]
        · simp at h
      · simp at h
    · simp at h
  | .row p t :: es, u, ts, r, x, h => by
    unfold ESh.decL at h
    split at h
    · split at h
      · rename_i r' hr'
        split at h
        · rename_i xs hp hx
          obtain rfl := Option.some.inj h
          have h2 := ESh.decL_enc es _ ts r r' hr'
          simp only [ESh.encL]
          rw [h2]
          obtain ⟨e, hx⟩ := castTy_some hx
          simp only [Ty.slice.injEq] at e
          subst e
          simp only at hx
          subst hx
          rw [eq_of_beq hp]
        · simp at h
      · simp at h
    · simp at h
theorem Ex.beq_eq {x y : Ex} (h : x.beq y = true) : x = y := by
  cases x <;> cases y <;> simp only [Ex.beq] at h <;> first | rfl | (exfalso; simp at h; done) | (rw [Nat.eq_of_beq_eq_true h])
theorem LSt.beq_eq {x y : LSt} (h : x.beq y = true) : x = y := by
  cases x <;> cases y <;> simp only [LSt.beq] at h <;> first | rfl | (exfalso; simp at h; done) | (rw [Ex.beq_eq h])
theorem LSh.decL_enc : ∀ (s : List LSh) (v : List Lp) (ts : List Ty) (r : denTs ts) (x : denTs (LSh.tsL s ts)), LSh.decL s v ts r = some x → LSh.encL s v ts x = (v, r)
  | [], v, ts, r, x, h => by
    unfold LSh.decL at h
    split at h
    · have h' : r = x := Option.some.inj h
      subst h'; rfl
    · simp at h
  | l :: ls, v, ts, r, x, h => by
    unfold LSh.decL at h
    split at h
    · split at h
      · rename_i r' hr'
        split at h
        · rename_i hb
          simp only [Bool.and_eq_true] at hb
          have h1 := VSh.decL_enc l.tm _ _ r' x h
          have h2 := LSh.decL_enc ls _ ts r r' hr'
          simp only [LSh.encL]
          rw [h1]
          simp only
          rw [h2, Nat.eq_of_beq_eq_true hb.1.1, Nat.eq_of_beq_eq_true hb.1.2, LSt.beq_eq hb.2]
        · simp at h
      · simp at h
    · simp at h
theorem Shape.dec_enc {sh : Shape} {st : St} {x : sh.den} (h : sh.dec st = some x) : sh.enc st.lp x = st := by
  unfold Shape.dec at h
  split at h
  · simp at h
  · rename_i r1 h1
    split at h
    · simp at h
    · rename_i r2 h2
      split at h
      · simp at h
      · rename_i r3 h3
        have e1 := LSh.decL_enc _ _ _ _ _ h1
        have e2 := ESh.decL_enc _ _ _ _ _ h2
        have e3 := VSh.decLL_enc _ _ _ _ _ h3
        have e4 := VSh.decL_enc _ _ _ _ _ h
        unfold Shape.enc
        simp only
        rw [e4]
        simp only
        rw [e3]
        simp only
        rw [e2]
        simp only
        rw [e1]
section
variable {w0 : Base} {sp : List (Nat × Obj)} {L : List LI} {M : List Nat} {outs : List (List Value)} {st : St} {Γ : Ctx} {tmps : Array Value}
theorem keepSh_ones : ∀ (ss : List VSh) {tm : List AV} {vs : List Value}, AV.ones Γ tm vs → AV.ones Γ (keepSh ss tm) vs
  | [], [], vs, h => h
  | [], _ :: _, vs, h => h
  | s :: ss, [], vs, h => by cases s <;> exact h
  | s :: ss, v :: tm, vs, ⟨u, us, e, h1, h2⟩ => by
    cases s <;> exact ⟨u, us, e, by first | exact h1 | trivial, keepSh_ones ss h2⟩
theorem pubAt_eff (σ : List Ent) (i : Nat) : (fun k => (pubAt σ i)[k]?) = updE (fun k => σ[k]?) (pubRow (fun k => σ[k]?) i) := by
  funext k
  unfold pubAt pubRow
  dsimp only
  cases h : σ[i]? with
  | none => rfl
  | some e =>
    cases e with
    | row p t xs =>
      cases p with
      | true => rfl
      | false =>
        simp only [updE]
        have hi := (List.getElem?_eq_some_iff.1 h).1
        by_cases hk : k = i
        · subst hk; simp [hi]
        · rw [updN_ne _ _ hk, List.getElem?_set_ne (Ne.symm hk)]
    | _ => rfl
theorem pubAt_len (σ : List Ent) (i : Nat) : (pubAt σ i).length = σ.length := by
  unfold pubAt; split <;> simp
theorem pubAts_eff : ∀ (l : List Nat) (σ : List Ent), (fun k => (l.foldl pubAt σ)[k]?) = updE (fun k => σ[k]?) (pubRows (fun k => σ[k]?) l)
  | [], σ => rfl
  | i :: l, σ => by
    rw [List.foldl_cons, pubAts_eff l (pubAt σ i), pubAt_eff]
    simp only [pubRows, updE_append]
theorem pubAts_len : ∀ (l : List Nat) (σ : List Ent), (l.foldl pubAt σ).length = σ.length
  | [], σ => rfl
  | i :: l, σ => by rw [List.foldl_cons, pubAts_len l, pubAt_len]
theorem pubAts_box : ∀ (l : List Nat) (σ : List Ent) (k : Nat) (p : Bool) (v : AV), σ[k]? = some (.box p v) → (l.foldl pubAt σ)[k]? = some (.box p v)
  | [], σ, k, p, v, h => h
  | i :: l, σ, k, p, v, h => by
    rw [List.foldl_cons]
    refine pubAts_box l _ k p v ?_
    unfold pubAt
    split
    · rename_i t xs hi
      rw [List.getElem?_set_ne]
      · exact h
      · rintro rfl
        rw [h] at hi; simp at hi
    · exact h
structure Fits (w0 : Base) (sp : List (Nat × Obj)) (Γ Γ' : Ctx) (σ σ' : List Ent) : Prop where
  w : Γ'.w = Γ.w
  lb : Γ'.lb = Γ.lb
  look : Γ'.σ = fun k => σ'[k]?
  le : Γ.le Γ'
  good : Good w0 sp Γ'
  len : σ.length ≤ σ'.length
  box : ∀ (k : Nat) (p : Bool) (v : AV), σ[k]? = some (.box p v) → σ'[k]? = some (.box p v)
theorem Fits.refl {σ : List Ent} (hg : Good w0 sp Γ) (hσ : Γ.σ = fun k => σ[k]?) : Fits w0 sp Γ Γ σ σ := ⟨rfl, rfl, hσ, Ctx.le.refl Γ, hg, Nat.le_refl _, fun _ _ _ h => h⟩
theorem Fits.trans {Γ1 Γ2 Γ3 : Ctx} {σ1 σ2 σ3 : List Ent} (h : Fits w0 sp Γ1 Γ2 σ1 σ2) (k : Fits w0 sp Γ2 Γ3 σ2 σ3) : Fits w0 sp Γ1 Γ3 σ1 σ3 :=
  ⟨k.w.trans h.w, k.lb.trans h.lb, k.look, h.le.trans k.le, k.good, Nat.le_trans h.len k.len, fun a p v q => k.box a p v (h.box a p v q)⟩
mutual
theorem VSh.fit_ok : ∀ (s : VSh) (v : AV) (σ : List Ent) {Γ : Ctx}, Good w0 sp Γ → (Γ.σ = fun k => σ[k]?) →
    ∃ Γ', Fits w0 sp Γ Γ' σ (s.fit v σ).2 ∧ (s.fit v σ).1.shp = v.shp ∧ (∀ u, v.val Γ u → (s.fit v σ).1.val Γ' u) ∧ (∀ us, v.cells Γ us → (s.fit v σ).1.cells Γ' us)
  | s, v, σ, Γ, hg, hσ => by
    have stay : ∃ Γ', Fits w0 sp Γ Γ' σ σ ∧ v.shp = v.shp ∧ (∀ u, v.val Γ u → v.val Γ' u) ∧ (∀ us, v.cells Γ us → v.cells Γ' us) := ⟨Γ, Fits.refl hg hσ, rfl, fun _ h => h, fun _ h => h⟩
    have data : ∀ (t : Ty), ∃ Γ', Fits w0 sp Γ Γ' σ (fitDat t v σ).2 ∧ (fitDat t v σ).1.shp = v.shp ∧ (∀ u, v.val Γ u → (fitDat t v σ).1.val Γ' u) ∧ (∀ us, v.cells Γ us → (fitDat t v σ).1.cells Γ' us) := by
      intro t
      unfold fitDat
      split
      · exact stay
      · rename_i hnd
        cases hx : v.toR (fun i => σ[i]?) t with
        | none => exact stay
        | some p =>
        obtain ⟨x, l⟩ := p
        simp only
        have hL : LookOk Γ (fun i => σ[i]?) := fun i e h => by rw [hσ]; exact h
        obtain ⟨Γ1, a1, a2, a3, a4, a5, a6, a7⟩ := pubRows_good l hg hL
        have hcells : ∀ us, v.cells Γ us → (AV.dat t x).cells Γ1 us := fun us hus => toR_rep a6 t hx (AV.cells_mono a5 v hus) (fun j hj p t' xs hh => a7 j p t' xs hh (.inl hj))
        refine ⟨Γ1, ⟨a1, a3, ?_, a5, a6, Nat.le_of_eq (pubAts_len l σ).symm, fun k p v => pubAts_box l σ k p v⟩, (toR_shp t hx).1.symm, fun u hu => ?_, hcells⟩
        · rw [a4, hσ]; exact (pubAts_eff l σ).symm
        · obtain ⟨vs, h1, h2⟩ := val_boxable_cells (toR_boxable hx) hu
          refine ⟨vs, hcells vs h1, ?_⟩
          rw [h2, (toR_shp t hx).2]
          rfl
    cases s with
    | own i t =>
      cases v with
      | nils =>
        obtain ⟨Γ', h1, h2, h3, h4, h5, h6, h7⟩ := hg.bornNil (nx := σ.length) (.inl (by rw [hσ]; simp)) t
        have hrow : Γ'.σ σ.length = some (.row false t []) := by rw [h2]; simp
        have hv : ∀ u, u = Value.slice none 0 0 → Γ'.ownv σ.length u := fun u hu => by
          unfold Ctx.ownv
          rw [hrow]
          exact ⟨none, 0, hu, Nat.le_refl _, .inl rfl⟩
        refine ⟨Γ', ⟨h1, h4, ?_, h6, h7, by simp [VSh.fit], fun k p v hk => ?_⟩, rfl, fun u hu => hv u hu, fun us hu => ⟨_, hu, hv _ rfl⟩⟩
        · rw [h2, hσ]
          funext k
          simp only [VSh.fit]
          by_cases hk : k = σ.length
          · subst hk; simp
          · rw [updN_ne _ _ hk]
            rcases Nat.lt_or_ge k σ.length with hl | hge
            · rw [List.getElem?_append_left hl]
            · rw [List.getElem?_eq_none (by omega), List.getElem?_eq_none (by simp; omega)]
        · simp only [VSh.fit]
          rw [List.getElem?_append_left (List.getElem?_eq_some_iff.1 hk).1]
          exact hk
      | _ => exact stay
    | dat t => exact data t
    | agg ss =>
      cases v with
      | agg vs =>
        obtain ⟨Γ', h1, h2, h3, h4⟩ := VSh.fitL_ok ss vs σ hg hσ
        exact ⟨Γ', h1, h2, fun u ⟨us, hu1, hu2⟩ => ⟨us, h4 us hu1, hu2⟩, fun us hu => h4 us hu⟩
      | _ => exact stay
    | _ => exact stay
theorem VSh.fitL_ok : ∀ (ss : List VSh) (vs : List AV) (σ : List Ent) {Γ : Ctx}, Good w0 sp Γ → (Γ.σ = fun k => σ[k]?) →
    ∃ Γ', Fits w0 sp Γ Γ' σ (VSh.fitL ss vs σ).2 ∧ AV.shpL (VSh.fitL ss vs σ).1 = AV.shpL vs ∧ (∀ us, AV.ones Γ vs us → AV.ones Γ' (VSh.fitL ss vs σ).1 us) ∧ (∀ us, AV.cellsL Γ vs us → AV.cellsL Γ' (VSh.fitL ss vs σ).1 us)
  | [], vs, σ, Γ, hg, hσ => by
    refine ⟨Γ, ?_, ?_⟩
    · simp only [VSh.fitL]; exact Fits.refl hg hσ
    · simp only [VSh.fitL]; exact ⟨trivial, fun _ h => h, fun _ h => h⟩
  | s :: ss, [], σ, Γ, hg, hσ => by
    refine ⟨Γ, ?_, ?_⟩
    · simp only [VSh.fitL]; exact Fits.refl hg hσ
    · simp only [VSh.fitL]; exact ⟨trivial, fun _ h => h, fun _ h => h⟩
  | s :: ss, v :: vs, σ, Γ, hg, hσ => by
    obtain ⟨Γ1, a1, a2, a3, a4⟩ := VSh.fit_ok s v σ hg hσ
    obtain ⟨Γ2, b1, b2, b3, b4⟩ := VSh.fitL_ok ss vs (s.fit v σ).2 a1.good a1.look
    simp only [VSh.fitL]
    refine ⟨Γ2, a1.trans b1, ?_, fun us hu => ?_, fun us hu => ?_⟩
    · simp only [AV.shpL]; rw [a2, b2]
    · obtain ⟨u, us', e, h1, h2⟩ := hu
      exact ⟨u, us', e, AV.val_mono b1.le _ (a3 u h1), b3 _ (AV.ones_mono a1.le _ h2)⟩
    · obtain ⟨u, us', e, h1, h2⟩ := hu
      exact ⟨u, us', e, AV.cells_mono b1.le _ (a4 u h1), b4 _ (AV.cellsL_mono a1.le _ h2)⟩
end
theorem Good.respell (hg : Good w0 sp Γ) {k : Nat} {p : Bool} {v v' : AV} (hk : Γ.σ k = some (.box p v)) (hs : v'.shp = v.shp) (hc : ∀ b C T, Γ.β k = some b → blk Γ.w b C T → v'.cells Γ C.toList) :
    ∃ Γ', Γ'.w = Γ.w ∧ Γ'.lb = Γ.lb ∧ Γ'.σ = updN Γ.σ k (some (.box p v')) ∧ Γ.le Γ' ∧ Good w0 sp Γ' := by
  let Γ' : Ctx := { Γ with σ := updN Γ.σ k (some (.box p v')) }
  have hle : Γ.le Γ' := by
    refine ⟨fun b hb => ⟨hb, rfl⟩, fun i e h1 h2 => ?_, fun _ _ h => h⟩
    by_cases hi : i = k
    · subst hi
      rw [hk] at h1
      simp only [Option.some.injEq] at h1
      subst h1
      exact ⟨.box p v', by simp [Γ'], .inr ⟨hs, rfl, fun b C T _ hb => ⟨C, hb, rfl⟩⟩⟩
    · exact ⟨e, by simp only [Γ', updN_ne _ _ hi]; exact h1, .inr ⟨Ent.same.rfl' h2, rfl, fun b C T _ hb => ⟨C, hb, rfl⟩⟩⟩
  refine ⟨Γ', rfl, rfl, rfl, hle, hg.next hle hg.below (fun b hb => .inl hb) ?_ ?_ (Nat.le_refl _) (fun p _ => rfl)⟩
  · intro i e' h1
    by_cases hi : i = k
    · subst hi
      simp only [Γ', updN_same, Option.some.injEq] at h1
      subst h1
      obtain ⟨b, C, T, q1, q2, q3, q4⟩ := hg.ent i _ hk
      exact ⟨b, C, T, q1, q2, AV.cells_mono hle _ (hc b C T q1 q2), q4⟩
    · simp only [Γ', updN_ne _ _ hi] at h1
      exact EntRep.stay hle (hg.ent i e' h1) rfl fun b C T _ _ _ => ⟨rfl, Iff.rfl⟩
  · intro i e' b h1 h2 h3
    by_cases hi : i = k
    · subst hi
      simp only [Γ', updN_same, Option.some.injEq] at h1
      subst h1
      exact .inl ⟨.box p v, hk, by cases p <;> simp_all [Ent.live], h3⟩
    · simp only [Γ', updN_ne _ _ hi] at h1
      exact .inl ⟨e', h1, h2, h3⟩
theorem ESh.fitL_ok : ∀ (es : List ESh) (k : Nat) (σ : List Ent) {Γ : Ctx}, Good w0 sp Γ → (Γ.σ = fun k => σ[k]?) →
    ∃ Γ', Γ'.w = Γ.w ∧ Γ'.lb = Γ.lb ∧ (Γ'.σ = fun i => (ESh.fitL es k σ)[i]?) ∧ Γ.le Γ' ∧ Good w0 sp Γ'
  | [], k, σ, Γ, hg, hσ => ⟨Γ, rfl, rfl, hσ, Ctx.le.refl Γ, hg⟩
  | e :: es, k, σ, Γ, hg, hσ => by
    have stay := ESh.fitL_ok es (k + 1) σ hg hσ
    cases e with
    | box p s =>
      simp only [ESh.fitL]
      split
      · rename_i p' v hk
        obtain ⟨Γ1, a1, a2, a3, a4⟩ := VSh.fit_ok s v σ hg hσ
        have hk0 : Γ.σ k = some (.box p' v) := by rw [hσ]; exact hk
        have hk1 : Γ1.σ k = some (.box p' v) := by rw [a1.look]; exact a1.box k p' v hk
        obtain ⟨Γ2, b1, b2, b3, b4, b5⟩ := a1.good.respell hk1 a2 (fun b C T h1 h2 => by
          obtain ⟨b', C', T', q1, q2, q3, q4⟩ := hg.ent k _ hk0
          obtain ⟨e', q5, q6⟩ := a1.le.ent k _ hk0 (by simp)
          rw [hk1] at q5
          simp only [Option.some.injEq] at q5
          subst q5
          rcases q6 with q6 | ⟨_, q6, _⟩
          · simp at q6
          · rw [q6, q1] at h1
            simp only [Option.some.injEq] at h1
            subst h1
            rw [a1.w] at h2
            unfold blk at h2 q2
            rw [q2] at h2
            simp only [Option.some.injEq, Obj.cells.injEq] at h2
            obtain ⟨rfl, _⟩ := h2
            exact a4 _ q3)
        obtain ⟨Γ3, c1, c2, c3, c4, c5⟩ := ESh.fitL_ok es (k + 1) ((s.fit v σ).2.set k (.box p' (s.fit v σ).1)) b5 (by
          rw [b3, a1.look]
          funext i
          have hkl : k < (s.fit v σ).2.length := (List.getElem?_eq_some_iff.1 (a1.box k p' v hk)).1
          by_cases hi : i = k
          · subst hi; simp [hkl]
          · rw [updN_ne _ _ hi, List.getElem?_set_ne (Ne.symm hi)])
        exact ⟨Γ3, c1.trans (b1.trans a1.w), c2.trans (b2.trans a1.lb), c3, (a1.le.trans b4).trans c4, c5⟩
      · exact stay
    | dead => exact stay
    | row p t => exact stay
theorem Rel.fitTm (h : Rel w0 L M outs st Γ tmps) (sh : Shape) : ∃ Γ', Γ'.w = Γ.w ∧ Rel w0 L M outs (st.fitTm sh) Γ' tmps := by
  obtain ⟨Γ', h1, h2, h3, h4⟩ := VSh.fitL_ok sh.tm (keepSh sh.tm st.tm) st.σ h.good h.σ
  exact ⟨Γ', h1.w, { σ := h1.look, tm := h3 _ (keepSh_ones sh.tm h.tm), out := qaw (fun _ _ h => AV.ones_mono h1.le _ h) h.out, lb := h1.lb.trans h.lb
                     lp := qaw (fun _ _ h => ⟨h.1, h.2.1, h.2.2.1, AV.ones_mono h1.le _ h.2.2.2⟩) h.lp, good := h1.good, nodup := h.nodup }⟩
theorem Rel.fitE (h : Rel w0 L M outs st Γ tmps) (sh : Shape) : ∃ Γ', Γ'.w = Γ.w ∧ Rel w0 L M outs (st.fitE sh) Γ' tmps := by
  obtain ⟨Γ', h1, h2, h3, h4, h5⟩ := ESh.fitL_ok sh.σ 0 st.σ h.good h.σ
  exact ⟨Γ', h1, { σ := h3, tm := AV.ones_mono h4 _ h.tm, out := qaw (fun _ _ h => AV.ones_mono h4 _ h) h.out, lb := h2.trans h.lb
                   lp := qaw (fun _ _ h => ⟨h.1, h.2.1, h.2.2.1, AV.ones_mono h4 _ h.2.2.2⟩) h.lp, good := h5, nodup := h.nodup }⟩
theorem Rel.reorder (h : Rel w0 L M outs st Γ tmps) : ∃ Γ', Γ'.w = Γ.w ∧ Rel w0 L M outs st.reorder Γ' tmps := by
  unfold St.reorder
  split
  · rename_i hall
    obtain ⟨Γ', h1, h2, _⟩ := h.sel (keep := st.order) (growTo_nodup _ 3 _ (addAll_nodup _ _ List.nodup_nil)) (fun k hk => by
      rw [List.all_eq_true] at hall
      simpa [Nat.blt_eq] using hall k hk)
    exact ⟨Γ', h1, h2⟩
  · exact ⟨Γ, rfl, h⟩
def lpc (l : Lp) : List Nat × Code × Code := (l.params, l.assign, l.body)
theorem reorder_lp (st : St) : (st.reorder).lp.map lpc = st.lp.map lpc := by
  unfold St.reorder
  split
  · simp only [St.sel, St.map, List.map_map]
    rfl
  · rfl
theorem fitE_lp (st : St) (sh : Shape) : (st.fitE sh).lp = st.lp := rfl
theorem fitTm_lp (st : St) (sh : Shape) : (st.fitTm sh).lp = st.lp := rfl
theorem encL_base : ∀ (s : List LSh) (b b' : List Lp) (ts : List Ty) (x : denTs (LSh.tsL s ts)), b.map lpc = b'.map lpc → LSh.encL s b ts x = LSh.encL s b' ts x
  | [], b, b', ts, x, _ => by simp [LSh.encL]
  | l :: ls, [], [], ts, x, _ => rfl
  | l :: ls, [], _ :: _, ts, x, h => by simp at h
  | l :: ls, _ :: _, [], ts, x, h => by simp at h
  | l :: ls, b :: bs, c :: cs, ts, x, h => by
    simp only [List.map_cons, List.cons.injEq, lpc, Prod.mk.injEq] at h
    obtain ⟨⟨h1, h2, h3⟩, h5⟩ := h
    simp only [LSh.encL]
    rw [encL_base ls bs cs ts _ h5, h1, h2, h3]
theorem enc_base (sh : Shape) {b b' : List Lp} (x : sh.den) (h : b.map lpc = b'.map lpc) : sh.enc b x = sh.enc b' x := by
  unfold Shape.enc
  simp only
  rw [encL_base sh.lp b b' [] _ h]
theorem keepLL_ones : ∀ (ss : List (List VSh)) {os : List (List AV)} {us : List (List Value)}, All2 (AV.ones Γ) os us → All2 (AV.ones Γ) (keepLL ss os) us
  | [], _, _, h => h
  | s :: ss, _, _, .nil => .nil
  | s :: ss, _, _, .cons h1 h2 => .cons (keepSh_ones s h1) (keepLL_ones ss h2)
theorem keepLp_ones {F : FuncId → Option Func} : ∀ (ss : List LSh) {ls : List Lp} {L : List LI}, All2 (fun (l : Lp) (i : LI) => (l.params = i.params ∧ RfAt F l.fid l.cb l.params l.assign l.body) ∧ l.assign = i.assign ∧ l.body = i.body ∧ AV.ones Γ l.tm i.tmps) ls L →
    All2 (fun (l : Lp) (i : LI) => (l.params = i.params ∧ RfAt F l.fid l.cb l.params l.assign l.body) ∧ l.assign = i.assign ∧ l.body = i.body ∧ AV.ones Γ l.tm i.tmps) (keepLp ss ls) L
  | [], _, _, h => h
  | s :: ss, _, _, .nil => .nil
  | s :: ss, _, _, .cons ⟨h1, h2, h3, h4⟩ h => .cons ⟨h1, h2, h3, keepSh_ones s.tm h4⟩ (keepLp_ones ss h)
theorem keepLp_spL : ∀ (ss : List LSh) (ls : List Lp) (L : List LI), spL (keepLp ss ls) L = spL ls L
  | [], ls, L => rfl
  | s :: ss, [], L => rfl
  | s :: ss, l :: ls, [] => rfl
  | s :: ss, l :: ls, i :: L => by
    show (i.blk, i.obj l.st) :: spL (keepLp ss ls) L = (i.blk, i.obj l.st) :: spL ls L
    rw [keepLp_spL ss ls L]
theorem keepLp_lpc : ∀ (ss : List LSh) (ls : List Lp), (keepLp ss ls).map lpc = ls.map lpc
  | [], ls => rfl
  | s :: ss, [] => rfl
  | s :: ss, l :: ls => by
    show lpc l :: (keepLp ss ls).map lpc = lpc l :: ls.map lpc
    rw [keepLp_lpc ss ls]
theorem keepLp_len : ∀ (ss : List LSh) (ls : List Lp), (keepLp ss ls).length = ls.length
  | [], ls => rfl
  | s :: ss, [] => rfl
  | s :: ss, l :: ls => congrArg (· + 1) (keepLp_len ss ls)
theorem Rel.forget (h : Rel w0 L M outs st Γ tmps) (sh : Shape) : Rel w0 L M outs (st.forget sh) Γ tmps where
  σ := h.σ
  tm := h.tm
  out := keepLL_ones sh.out h.out
  lb := h.lb
  lp := keepLp_ones sh.lp h.lp
  good := by
    show Good w0 (spL (keepLp sh.lp st.lp) L ++ spM M) Γ
    rw [keepLp_spL]
    exact h.good
  nodup := h.nodup
theorem Rel.take (h : Rel w0 L M outs st Γ tmps) {sh : Shape} {x : sh.den} (hx : sh.take st = some x) : ∃ Γ', Γ'.w = Γ.w ∧ Rel w0 L M outs (sh.enc st.lp x) Γ' tmps := by
  unfold Shape.take at hx
  obtain ⟨Γ1, a1, a2⟩ := (h.forget sh).fitTm sh
  obtain ⟨Γ2, b1, b2⟩ := a2.reorder
  obtain ⟨Γ3, c1, c2⟩ := b2.fitE sh
  obtain ⟨Γ4, d1, d2⟩ := c2.reorder
  have e := Shape.dec_enc hx
  rw [← e] at d2
  have hb : ((((st.forget sh).fitTm sh).reorder.fitE sh).reorder).lp.map lpc = st.lp.map lpc := by
    rw [reorder_lp, fitE_lp, reorder_lp, fitTm_lp]
    exact keepLp_lpc sh.lp st.lp
  rw [enc_base sh x hb] at d2
  exact ⟨Γ4, d1.trans (c1.trans (b1.trans a1)), d2⟩
theorem LSh.decL_len : ∀ {s : List LSh} {bs : List Lp} {ts : List Ty} {r : denTs ts} {y : denTs (LSh.tsL s ts)}, LSh.decL s bs ts r = some y → bs.length = s.length
  | [], bs, ts, r, y, h => by
    cases bs with
    | nil => rfl
    | cons b bs => simp [LSh.decL] at h
  | l :: ls, [], ts, r, y, h => by simp [LSh.decL] at h
  | l :: ls, b :: bs, ts, r, y, h => by
    simp only [LSh.decL] at h
    cases hh : LSh.decL ls bs ts r with
    | none => rw [hh] at h; simp at h
    | some z => simp [LSh.decL_len hh]
theorem St.reorder_lp (st : St) : st.reorder.lp.length = st.lp.length := by
  unfold St.reorder
  split
  · simp [St.sel, St.map]
  · rfl
theorem take_len {sh : Shape} {st : St} {x : sh.den} (h : sh.take st = some x) : st.lp.length = sh.lp.length := by
  unfold Shape.take Shape.dec at h
  split at h
  · simp at h
  · rename_i r hr
    have := LSh.decL_len hr
    rw [St.reorder_lp] at this
    rw [← this]
    show _ = ((((st.forget sh).fitTm sh).reorder).fitE sh).lp.length
    unfold St.fitE
    simp only [St.reorder_lp]
    exact (keepLp_len sh.lp st.lp).symm
end
end Go.AV
end
section
set_option linter.unusedVariables false
set_option linter.unusedSimpArgs false
namespace Go.AV
open Go Go.RowKit
section
variable {P : Program} {E : Env} {w0 : Base} {ρ : Type} {r : ρ}
def DrawSound (P : Program) (E : Env) (w0 : Base) (r : ρ) : Prop :=
  ∀ (F : Fence) (n : Nat) (L : List LI) (M0 : List Nat) (outs : List (List Value)) (id : Nat) (ops : Array Oper) (st : St) (Γ : Ctx) (a : Act) (own : List Nat) (q : St → Option ρ) (Q : Exit → Act → World → Prop),
    Wide F → drawK E ops st q = some r → RelA F w0 L M0 outs st Γ a own → (∀ st' Γ' a', q st' = some r → RelA F w0 L M0 outs st' Γ' a' own → Q .normal a' Γ'.w) → (Code.region id ops true).wpIn F n P Q a Γ.w
variable {F : Fence} {n : Nat} {L : List LI} {M0 : List Nat} {outs : List (List Value)} {st : St} {Γ : Ctx} {a : Act} {own : List Nat}
theorem addLb {sp : List (Nat × Obj)} (hg : Good w0 sp Γ) (b : Nat) : Γ.le { Γ with lb := Γ.lb ++ [b] } ∧ Good w0 sp { Γ with lb := Γ.lb ++ [b] } := by
  have hle : Γ.le { Γ with lb := Γ.lb ++ [b] } :=
    ⟨fun b hb => ⟨hb, rfl⟩, fun j x h1 h2 => ⟨x, h1, .inr ⟨Ent.same.rfl' h2, rfl, fun b C T _ hk => ⟨C, hk, rfl⟩⟩⟩, fun l b h => by
      have := (List.getElem?_eq_some_iff.1 h).1
      simp only
      rw [List.getElem?_append_left this]; exact h⟩
  exact ⟨hle, { hg with ent := fun i e h1 => EntRep.stay hle (hg.ent i e h1) rfl fun b C T _ _ _ => ⟨rfl, Iff.rfl⟩ }⟩
theorem Rel.newLp {M : List Nat} {tmps : Array Value} (h : Rel w0 L M outs st Γ tmps) {x : Lp} (i : LI) (hi : i.blk = Γ.w.heap.size) (hs : x.st = .ready) (hx : (x.params = i.params ∧ RfAt w0.fs x.fid x.cb x.params x.assign x.body) ∧ x.assign = i.assign ∧ x.body = i.body ∧ AV.ones Γ x.tm i.tmps) :
    ∃ Γ', Γ'.w = Γ.w.alloc (i.obj .ready) ∧ Γ.le Γ' ∧ Γ'.lb = Γ.lb ++ [i.blk] ∧ Rel w0 (L ++ [i]) M outs { st with lp := st.lp ++ [x] } Γ' tmps := by
  obtain ⟨l1, g1⟩ := h.good.allocObj (i.obj .ready)
  obtain ⟨l2, g2⟩ := addLb g1 i.blk
  have hle := l1.trans l2
  have hlen := all2_len h.lp
  have hlt : ∀ b ∈ L.map (·.blk) ++ M, b < Γ.w.heap.size := by
    intro b hb
    rcases List.mem_append.1 hb with hb | hb
    · obtain ⟨j, hj, rfl⟩ := List.mem_map.1 hb
      obtain ⟨k, hk⟩ := List.getElem?_of_mem hj
      have hk' : k < st.lp.length := by
        have := (List.getElem?_eq_some_iff.1 hk).1
        omega
      exact (Array.getElem?_eq_some_iff.1 (h.record (List.getElem?_eq_getElem hk') hk)).1
    · exact (Array.getElem?_eq_some_iff.1 ((h.good.sp (b, .deferred (some [])) (List.mem_append.2 (.inr (List.mem_map.2 ⟨b, hb, rfl⟩)))).1)).1
  have hall : ∀ {l : List Lp} {m : List LI}, All2 (fun (l : Lp) (i : LI) => (l.params = i.params ∧ RfAt w0.fs l.fid l.cb l.params l.assign l.body) ∧ l.assign = i.assign ∧ l.body = i.body ∧ AV.ones { Γ with w := Γ.w.alloc (i.obj .ready), lb := Γ.lb ++ [i.blk] } l.tm i.tmps) l m → True := fun _ => trivial
  refine ⟨{ Γ with w := Γ.w.alloc (i.obj .ready), lb := Γ.lb ++ [i.blk] }, rfl, hle, rfl, { σ := h.σ, tm := AV.ones_mono hle _ h.tm, out := qaw (fun _ _ h => AV.ones_mono hle _ h) h.out, lb := by simp [h.lb], lp := ?_, good := ?_, nodup := ?_ }⟩
  · have key : ∀ {l : List Lp} {m : List LI}, All2 (fun (l : Lp) (i : LI) => (l.params = i.params ∧ RfAt w0.fs l.fid l.cb l.params l.assign l.body) ∧ l.assign = i.assign ∧ l.body = i.body ∧ AV.ones Γ l.tm i.tmps) l m →
        All2 (fun (l : Lp) (j : LI) => (l.params = j.params ∧ RfAt w0.fs l.fid l.cb l.params l.assign l.body) ∧ l.assign = j.assign ∧ l.body = j.body ∧ AV.ones { Γ with w := Γ.w.alloc (i.obj .ready), lb := Γ.lb ++ [i.blk] } l.tm j.tmps) (l ++ [x]) (m ++ [i]) := by
      intro l m hlm
      induction hlm with
      | nil => exact .cons ⟨hx.1, hx.2.1, hx.2.2.1, AV.ones_mono hle _ hx.2.2.2⟩ .nil
      | cons h1 h2 ih => exact .cons ⟨h1.1, h1.2.1, h1.2.2.1, AV.ones_mono hle _ h1.2.2.2⟩ ih
    exact key h.lp
  · refine g2.subSp fun p hp => ?_
    rw [spL_append _ _ hlen] at hp
    simp only [spL, List.mem_append, List.mem_cons, List.not_mem_nil, or_false] at hp ⊢
    rcases hp with (hp | rfl) | hp
    · exact .inr (.inl hp)
    · left; rw [hs, hi]
    · exact .inr (.inr hp)
  · have hn := h.nodup
    rw [List.nodup_append] at hn ⊢
    obtain ⟨n1, n2, n3⟩ := hn
    refine ⟨?_, n2, ?_⟩
    · simp only [List.map_append, List.map_cons, List.map_nil]
      rw [List.nodup_append]
      refine ⟨n1, by simp, fun c hc d hd => ?_⟩
      simp only [List.mem_singleton] at hd
      subst hd
      have := hlt c (List.mem_append.2 (.inl hc))
      omega
    · intro c hc d hd
      simp only [List.map_append, List.map_cons, List.map_nil, List.mem_append, List.mem_singleton] at hc
      rcases hc with hc | rfl
      · exact n3 c hc d hd
      · have := hlt d (List.mem_append.2 (.inr hd))
        omega
theorem Rel.newMark {M : List Nat} {tmps : Array Value} (h : Rel w0 L M outs st Γ tmps) :
    Γ.le { Γ with w := Γ.w.alloc (.deferred (some [])) } ∧ Rel w0 L (Γ.w.heap.size :: M) outs st { Γ with w := Γ.w.alloc (.deferred (some [])) } tmps := by
  obtain ⟨hle, g1⟩ := h.good.allocObj (.deferred (some []))
  have hlen := all2_len h.lp
  have hlt : ∀ b ∈ L.map (·.blk) ++ M, b < Γ.w.heap.size := by
    intro b hb
    rcases List.mem_append.1 hb with hb | hb
    · obtain ⟨j, hj, rfl⟩ := List.mem_map.1 hb
      obtain ⟨k, hk⟩ := List.getElem?_of_mem hj
      have hk' : k < st.lp.length := by
        have := (List.getElem?_eq_some_iff.1 hk).1
        omega
      exact (Array.getElem?_eq_some_iff.1 (h.record (List.getElem?_eq_getElem hk') hk)).1
    · exact (Array.getElem?_eq_some_iff.1 ((h.good.sp (b, .deferred (some [])) (List.mem_append.2 (.inr (List.mem_map.2 ⟨b, hb, rfl⟩)))).1)).1
  refine ⟨hle, { σ := h.σ, tm := AV.ones_mono hle _ h.tm, out := qaw (fun _ _ h => AV.ones_mono hle _ h) h.out, lb := h.lb
                 lp := qaw (fun _ _ h => ⟨h.1, h.2.1, h.2.2.1, AV.ones_mono hle _ h.2.2.2⟩) h.lp, good := ?_, nodup := ?_ }⟩
  · refine g1.subSp fun p hp => ?_
    simp only [spM, List.map_cons, List.mem_append, List.mem_cons] at hp ⊢
    rcases hp with hp | rfl | hp
    · exact .inr (.inl hp)
    · exact .inl rfl
    · exact .inr (.inr hp)
  · have hn := h.nodup
    rw [List.nodup_append] at hn ⊢
    obtain ⟨n1, n2, n3⟩ := hn
    refine ⟨n1, List.nodup_cons.2 ⟨fun hm => ?_, n2⟩, fun c hc d hd => ?_⟩
    · have := hlt _ (List.mem_append.2 (.inr hm))
      omega
    · rcases List.mem_cons.1 hd with rfl | hd
      · have := hlt c (List.mem_append.2 (.inl hc))
        omega
      · exact n3 c hc d hd
theorem RelA.le {Γ' : Ctx} (h : RelA F w0 L M0 outs st Γ a own) (hr : Rel w0 L (own ++ M0) outs st Γ' a.tmps) : RelA F w0 L M0 outs st Γ' a own := { h with rel := hr }
theorem q4i (hE : EnvOk P E w0) (hW : Wide F) {N : Nat} {rec : Rec ρ} (hrec : RecSound P E w0 r N rec) {g : Operand} {ps : Array Tmp} {asg b : Code} {f : FuncId} {fs cs : List AV} {fid cb : Nat} (hat : CodeAt w0.fs fid cb (.rangeFunc g ps asg b)) {K : Ex → St → Option ρ} {Q : Exit → Act → World → Prop}
    (hg : opd st.tm g = some (.fn f fs cs))
    (h : enterK E rec f (fs ++ [.yld st.lp.length] ++ cs) { st with lp := st.lp ++ [⟨fid, cb, st.tm, ps.toList, asg, b, .ready⟩] } (fun _ st' => match st'.lp[st.lp.length]? with
          | some r => match r.st with
            | .ready => K .normal (st'.cutLp st.lp.length)
            | .done x => K x (st'.cutLp st.lp.length)
            | .busy => none
          | none => none) = some r)
    (hr : RelA F w0 L M0 outs st Γ a own)
    (hQ : ∀ x st' Γ' a' own', K x st' = some r → RelA F w0 L M0 outs st' Γ' a' own' → Q x.toExit a' Γ'.w) : (Code.rangeFunc g ps asg b).wpIn F n P Q a Γ.w := by
  refine wpIn_rangeFunc fun fn _ => ?_
  have hlen := all2_len hr.rel.lp
  have hlay : ∃ (l : Nat) (mark : List Deferred) (w1 : World) (own' : List Nat) (i : LI) (Γ1 : Ctx), (Instr.enterLoop fn a.tmps ps asg b F.round).run P Γ.w = .ok (l, mark) w1 ∧ i.blk = l ∧ Γ1.w = w1 ∧ Γ.le Γ1 ∧ Γ1.lb = Γ.lb ++ [l] ∧
      RelA F w0 (L ++ [i]) M0 outs { st with lp := st.lp ++ [⟨fid, cb, st.tm, ps.toList, asg, b, .ready⟩] } Γ1 { a with defers := mark ++ a.defers } own' := by
    cases hround : F.round with
    | none =>
      obtain ⟨l1, r1⟩ := hr.rel.newMark
      obtain ⟨Γ2, e2, l2, b2, r2⟩ := r1.newLp (x := ⟨fid, cb, st.tm, ps.toList, asg, b, .ready⟩) ⟨Γ.w.heap.size + 1, Γ.w.heap.size, fn, a.tmps.toList, ps.toList, asg, b⟩ (by simp) rfl ⟨⟨rfl, g, ps, rfl, hat⟩, rfl, rfl, AV.ones_mono l1 _ hr.rel.tm⟩
      refine ⟨_, _, _, Γ.w.heap.size :: own, _, Γ2, run_enterLoop_outer fn a.tmps ps asg b, rfl, ?_, l1.trans l2, b2, ⟨r2, ?_, fun h => ?_, fun l h => ?_⟩⟩
      · rw [e2]
        simp [LI.obj, LSt.state, LSt.pending]
      · simp only [List.map_cons, List.cons_append, List.nil_append, hr.defers]
        rfl
      · rw [hround] at h; simp at h
      · rw [hround] at h; simp at h
    | some l0 =>
      obtain ⟨i0, hi0, hb0⟩ := hr.inL l0 hround
      have hown := hr.round (by rw [hround]; rfl)
      obtain ⟨k, hk⟩ := List.getElem?_of_mem hi0
      have hk' : k < st.lp.length := by
        have := (List.getElem?_eq_some_iff.1 hk).1
        omega
      have hrc := hr.rel.record (List.getElem?_eq_getElem hk') hk
      rw [hb0] at hrc
      obtain ⟨Γ2, e2, l2, b2, r2⟩ := hr.rel.newLp (x := ⟨fid, cb, st.tm, ps.toList, asg, b, .ready⟩) ⟨Γ.w.heap.size, i0.dfr, fn, a.tmps.toList, ps.toList, asg, b⟩ rfl rfl ⟨⟨rfl, g, ps, rfl, hat⟩, rfl, rfl, hr.rel.tm⟩
      refine ⟨_, _, _, own, _, Γ2, run_enterLoop_inner hrc fn a.tmps ps asg b, rfl, ?_, l2, b2, ⟨r2, ?_, hr.round, fun l h => ?_⟩⟩
      · rw [e2]
        simp [LI.obj, LSt.state, LSt.pending]
      · simpa using hr.defers
      · obtain ⟨j, hj, hjb⟩ := hr.inL l h
        exact ⟨j, by simp [hj], hjb⟩
  obtain ⟨l, mark, w1, own', i, Γ1, h1, h2, h3, h4, h5, h6⟩ := hlay
  obtain ⟨us, ws, e1, m1, m2⟩ := hr.rel.opd rfl _ _ hg
  have hy : (AV.yld st.lp.length).val Γ1 (.func (.yield l) #[] #[]) := ⟨l, rfl, by
    rw [h5, hr.rel.lb, hlen]
    simp⟩
  have hargs : AV.ones Γ1 (fs ++ [.yld st.lp.length] ++ cs) (us ++ [Value.func (.yield l) #[] #[]] ++ ws) :=
    ones_append (ones_append (AV.ones_mono h4 _ m1) ⟨_, [], rfl, hy, rfl⟩) (AV.ones_mono h4 _ m2)
  obtain ⟨c1, c2⟩ := qy0 (n := n - 1) hE hW hrec h h6 hargs
  refine ⟨l, mark, w1, { target := .fn (.func f) ws.toArray, args := us.toArray ++ #[Value.func (.yield l) #[] #[]] }, w1, f, (us ++ [Value.func (.yield l) #[] #[]] ++ ws).toArray, w1, h1, ?_, fun f' _ => hW.1 f', ?_, by simp [hW.2], ?_⟩
  · have er : resolve a.eval (rangeCall g l) 0 = Deferred.ofValue (a.eval g) #[Value.func (.yield l) #[] #[]] := by
      show Deferred.ofValue (a.eval g) (#[Operand.const (.func (.yield l) #[] #[])].map a.eval) = _
      rw [show (#[Operand.const (.func (.yield l) #[] #[])].map a.eval) = #[Value.func (.yield l) #[] #[]] by simp [Act.eval]]
    rw [er, e1]
    rfl
  · have e2 : us.toArray ++ #[Value.func (.yield l) #[] #[]] ++ ws.toArray = (us ++ [Value.func (.yield l) #[] #[]] ++ ws).toArray := by
      apply Array.toList_inj.1
      simp
    simp only [invoke]
    rw [e2, ← h3]
    exact c1 _
  · rw [← h3]
    refine CallsIn.mono c2 fun e w' he => ?_
    cases e with
    | panicked c => exact he.elim
    | outgrown => exact he.elim
    | returned v =>
      obtain ⟨v', st', Γ', k1, k2, k3, rfl⟩ := he
      simp only at k1
      split at k1
      · rename_i x hx
        have hLi : (L ++ [i])[st.lp.length]? = some i := by rw [hlen]; simp
        have hrc := k2.rel.record hx hLi
        rw [h2] at hrc
        have hend : ∀ (e : Ex), x.st ≠ .busy → K e (st'.cutLp st.lp.length) = some r → (∀ a' w, Q e.toExit a' w → (match x.st.pending with
              | none => Q .normal a' w
              | some c => c.wpIn F n P Q a' w)) →
            rangePost F n P l Q { a with defers := mark ++ a.defers } (.returned v) Γ'.w := by
          intro e hb hk hf
          obtain ⟨Γ3, g1, g2⟩ := k2.rel.endLp (.loop { state := .exhausted, pending := x.st.pending, fn := i.fn, tmps := i.tmps.toArray, params := i.params.toArray, assign := i.assign, body := i.body, defers := i.dfr })
          rw [← hlen] at g2
          refine ⟨x.st.pending, Γ3.w, ?_, ?_⟩
          · rw [g1, h2]
            exact run_endLoop hrc (by cases hxs : x.st <;> simp [LSt.state] at hb ⊢; exact absurd hxs hb)
          · have hfin : RelA F w0 L M0 outs (st'.cutLp st.lp.length) Γ3 { a with defers := mark ++ a.defers } own' := ⟨g2, k2.defers, k2.round, hr.inL⟩
            exact hf _ _ (hQ e _ Γ3 _ own' hk hfin)
        split at k1
        · rename_i hs
          exact hend .normal (by rw [hs]; simp) k1 (by rw [hs]; exact fun a' w h => h)
        · rename_i x' hs
          refine hend x' (by rw [hs]; simp) k1 ?_
          rw [hs]
          intro a' w h
          cases x' with
          | normal => exact wpIn_skip h
          | exit id => exact wpIn_exit h
          | ret => exact wpIn_ret h
        · simp at k1
      · simp at k1
end
end Go.AV
end
section
set_option linter.unusedVariables false
set_option linter.unusedSimpArgs false
namespace Go.AV
open Go Go.RowKit
section
variable {P : Program} {E : Env} {w0 : Base} {ρ : Type} {r : ρ}
theorem wpIn_scope {F : Fence} {n : Nat} {c : Code} {Q : Exit → Act → World → Prop} {a : Act} {w : World} (h : c.wpIn F n P (Exit.noGoto Q) a w) : (Code.scope c).wpIn F n P Q a w := by
  intro b k cs hro hb hr
  have h0 : (lone (b.atR a (.code (.scope c) :: k)) cs w).fenced P F := fenced_calm hb hr rfl
  have hs : step P (lone (b.atR a (.code (.scope c) :: k)) cs w) = .next (lone (b.atR a (.code c :: .inScope c :: k)) cs w) := step_lone_go (by simp [stepG, stepG.exec, Frame.atR])
  have he : ∀ a w, step P (lone (b.atR a (.inScope c :: k)) cs w) = .next (lone (b.atR a k) cs w) := fun a w => step_lone_go (by simp [stepG, stepG.exec, Frame.atR])
  obtain ⟨e, a₁, w₁, hq, harr⟩ := h b (.inScope c :: k) cs hro hb hr
  cases e with
  | normal => exact ⟨.normal, a₁, w₁, hq, .head h0 hs (StepsIn.trans harr (.one (fenced_calm hb hr rfl) (he _ _)))⟩
  | exit id =>
    have hx : exitTo id (.inScope c :: k) = exitTo id k := by simp [exitTo]
    exact ⟨.exit id, a₁, w₁, hq, fun k' hk => .head h0 hs (harr.1 k' (by rw [hx]; exact hk)),
      fun hr' hk => let ⟨k₁, h1, h2⟩ := harr.2 hr' (by rw [hx]; exact hk); ⟨k₁, h1, .head h0 hs h2⟩⟩
  | goto l => exact hq.elim
  | ret => exact ⟨_, a₁, w₁, hq, .of_steps (.one h0 hs) harr⟩
  | panic ch => exact ⟨_, a₁, w₁, hq, .of_steps (.one h0 hs) harr⟩
  | outgrown => exact ⟨_, a₁, w₁, hq, .of_steps (.one h0 hs) harr⟩
theorem evC_sound (hE : EnvOk P E w0) (hD : DrawSound P E w0 r) {N : Nat} {rec : Rec ρ} (hrec : RecSound P E w0 r N rec) : RecSound P E w0 r (N + 1) (evC E rec) := by
  intro F n L M0 outs fid cb code st Γ a own K Q hW hat h hr hQ
  obtain ⟨fn, b0, hf, hb0, hsub⟩ := hat
  have hc := callK_sound hE hrec
  induction code generalizing cb st Γ a own K Q with
  | skip => exact ⟨wpIn_skip (hQ .normal _ _ _ _ h hr), fun c hc _ => by simp at hc⟩
  | label l => exact ⟨wpIn_label (hQ .normal _ _ _ _ h hr), fun c hc _ => by simp at hc⟩
  | region id ops draw =>
    refine ⟨?_, fun c hc _ => by simp at hc⟩
    cases draw with
    | false =>
      simp only [evC, spineSt_eq] at h
      refine wpIn_region ?_
      have := opsK_wp (n := n) (Q := Q) hE hW hc (ops := ops) (q := fun st => K .normal st) (fun st' Γ' a' hq hr' => hQ .normal _ _ _ _ hq hr') ops.toList 0 st Γ a (fun i o hi => by
        rw [Nat.zero_add]; rw [← Array.getElem?_toList]; exact hi) h hr
      rw [List.range_eq_range']
      simpa using this
    | true =>
      simp only [evC, spineSt_eq] at h
      exact hD F n L M0 outs id ops st Γ a own _ Q hW h hr fun st' Γ' a' hq hr' => hQ .normal _ _ _ _ hq hr'
  | seq x y ihx ihy =>
    refine ⟨wpIn_seq ?_, fun c hc _ => by simp at hc⟩
    refine (ihx cb _ _ _ _ _ _ h hr ?_ (.seqL hsub)).1
    intro e st' Γ' a' own' hk hr'
    cases e with
    | normal => exact (ihy cb _ _ _ _ _ _ hk hr' hQ (.seqR hsub)).1
    | exit id => exact hQ (.exit id) _ _ _ _ hk hr'
    | ret => exact hQ .ret _ _ _ _ hk hr'
  | cond c x y ihx ihy =>
    refine ⟨?_, fun c hc _ => by simp at hc⟩
    simp only [evC] at h
    split at h
    · rename_i t ht
      have hv := val_bool.1 (hr.rel.opd rfl _ _ ht)
      refine wpIn_cond hv ?_
      cases t with
      | true => exact (ihx cb _ _ _ _ _ _ h hr hQ (.condL hsub)).1
      | false => exact (ihy cb _ _ _ _ _ _ h hr hQ (.condR hsub)).1
    · simp at h
  | scope c ih =>
    refine ⟨wpIn_scope ?_, fun c hc _ => by simp at hc⟩
    refine (ih cb _ _ _ _ _ _ h hr ?_ (.scope hsub)).1
    intro e st' Γ' a' own' hk hr'
    have := hQ e _ _ _ _ hk hr'
    cases e <;> exact this
  | block id c ih =>
    refine ⟨wpIn_block ?_, fun c hc _ => by simp at hc⟩
    refine (ih id _ _ _ _ _ _ h hr ?_ (.block hsub)).1
    intro e st' Γ' a' own' hk hr'
    cases e with
    | normal => exact hQ .normal _ _ _ _ hk hr'
    | ret => exact hQ .ret _ _ _ _ hk hr'
    | exit id' =>
      simp only at hk
      simp only [Ex.toExit, Exit.inBlock]
      split at hk
      · rename_i hid
        rw [if_pos hid]
        exact hQ .normal _ _ _ _ hk hr'
      · rename_i hid
        rw [if_neg hid]
        exact hQ (.exit id') _ _ _ _ hk hr'
  | loop c ih =>
    simp only [evC] at h
    split at h
    · rename_i ls hls
      refine ⟨?_, fun c _ hn => by rw [hls] at hn; simp at hn⟩
      have key : ∀ (ls : List LoopC), (∀ l ∈ ls, LoopSpec P E.glob fid cb l) → hookK ls st K = some r → (Code.loop c).wpIn F n P Q a Γ.w := by
        intro ls
        induction ls with
        | nil => intro _ h; simp [hookK] at h
        | cons l ls ihl =>
          intro hl h
          simp only [hookK] at h
          split at h
          · rename_i x hx
            cases hy : l.G x with
            | none => rw [hy] at h; simp at h
            | some y =>
              rw [hy] at h
              simp only [Option.bind_some] at h
              obtain ⟨Γ1, e1, hr1⟩ := hr.rel.take hx
              rw [← e1]
              refine hl l (by simp) F n hW w0 hE.G hE.fs c ⟨fn, b0, hf, hb0, hsub⟩ L M0 outs st.lp Γ1 a own Q x y (take_len hx) hy { hr with rel := hr1 } ?_
              intro x' st' Γ' a' own' hk hr'
              refine hQ x' st' Γ' a' own' ?_ hr'
              have hnat : ∀ (es : List (Ex × Shape)) (y : ExDen es), exitK st.lp es y K = (exitK st.lp es y (fun x st => some (x, st))).bind fun p => K p.1 p.2 := by
                intro es
                induction es with
                | nil => intro y; exact y.elim
                | cons e es ihe =>
                  intro y
                  cases es with
                  | nil => rfl
                  | cons e' es' =>
                    cases y with
                    | inl a => rfl
                    | inr b => exact ihe b
              rw [hnat, hk] at h
              exact h
          · exact ihl (fun l' hl' => hl l' (by simp [hl'])) h
      exact key ls (hE.loops fid cb ls hls) h
    · rename_i hls
      have hl : LoopW F n P c Q (N + 1) a Γ.w := by
        show c.wpIn F n P (Exit.then (LoopW F n P c Q N) Q) a Γ.w
        refine (ih cb _ _ _ _ _ _ h hr ?_ (.loop hsub)).1
        intro e st' Γ' a' own' hk hr'
        cases e with
        | normal =>
          simp only at hk
          split at hk
          · obtain ⟨Γ2, e2, hr2, _⟩ := hr'.rel.gcV (st.σ.length + 24) (v := .junk) (u := undef) trivial
            have := (hrec F n L M0 outs fid cb (.loop c) _ Γ2 a' own' K Q hW ⟨fn, b0, hf, hb0, hsub⟩ hk { hr' with rel := hr2 } hQ).2 c rfl hls
            rw [e2] at this
            exact this
          · split at hk
            · rename_i y hy
              obtain ⟨Γ2, e2, hr2⟩ := hr'.rel.take hy
              have := (hrec F n L M0 outs fid cb (.loop c) _ Γ2 a' own' K Q hW ⟨fn, b0, hf, hb0, hsub⟩ hk { hr' with rel := hr2 } hQ).2 c rfl hls
              rw [e2] at this
              exact this
            · simp at hk
        | exit id => exact hQ (.exit id) _ _ _ _ hk hr'
        | ret => exact hQ .ret _ _ _ _ hk hr'
      exact ⟨hl.wp, fun c' hc' _ => by cases hc'; exact hl⟩
  | rangeFunc g ps asg b _ _ =>
    refine ⟨?_, fun c hc _ => by simp at hc⟩
    simp only [evC] at h
    split at h
    · rename_i f fs cs hg
      split at h
      · exact q4i hE hW hrec ⟨fn, b0, hf, hb0, hsub⟩ hg h hr (fun x st' Γ' a' own' hk hr' => hQ x _ _ _ _ hk hr')
      · simp at h
    · simp at h
  | exit id => exact ⟨wpIn_exit (hQ (.exit id) _ _ _ _ h hr), fun c hc _ => by simp at hc⟩
  | ret => exact ⟨wpIn_ret (hQ .ret _ _ _ _ h hr), fun c hc _ => by simp at hc⟩
  | goto l => simp [evC] at h
  | refuse why => simp [evC] at h
theorem ev_sound (hE : EnvOk P E w0) (hD : DrawSound P E w0 r) : ∀ N, RecSound P E w0 r N (ev E N)
  | 0 => by
    intro F n L M0 outs fid cb code st Γ a own K Q hW _ h
    simp [ev] at h
  | N + 1 => by
    have := evC_sound hE hD (ev_sound hE hD N)
    intro F n L M0 outs fid cb code st Γ a own K Q hW hat h
    exact this F n L M0 outs fid cb code st Γ a own K Q hW hat h
end
end Go.AV
end
section
set_option linter.unusedVariables false
set_option linter.unusedSimpArgs false
namespace Go.AV
open Go Go.RowKit
section
variable {ρ : Type} (E : Env)
theorem cond'_bind {α : Type} (b : Bool) (x y : Option α) (f : α → Option ρ) : (cond' b x y).bind f = cond' b (x.bind f) (y.bind f) := by cases b <;> rfl
def one (v : AV) : Option AV := some v
def two (v : AV) (e : Eff) : Option (AV × Eff) := some (v, e)
theorem binI_bind (op : BinOp) (k : IntKind) (a b : Int) (q : AV → Option ρ) : binI op k a b q = (binI op k a b one).bind q := by
  cases op <;> simp only [binI, one] <;> first | rfl | (rw [cond'_bind]; rfl) | (split <;> rfl)
theorem binS_bind (op : BinOp) (a b : ByteArray) (q : AV → Option ρ) : binS op a b q = (binS op a b one).bind q := by
  cases op <;> simp only [binS, one] <;> first | rfl | (rw [cond'_bind]; rfl)
theorem binK_bind (op : BinOp) (T : TypeId) (σ : Look) (x y : AV) (q : AV → Option ρ) : binK E op T σ x y q = (binK E op T σ x y one).bind q := by
  unfold binK
  split
  · rw [cond'_bind]; rfl
  · rw [cond'_bind]; rfl
  · split
    · exact binI_bind _ _ _ _ _
    · rfl
  · exact binS_bind _ _ _ _
  · split <;> rfl
  · split <;> rfl
  · rfl
theorem loadK_bind (T : TypeId) (σ : Look) (a : Operand) (v : Option AV) (q : AV → Option ρ) : loadK E T σ a v q = (loadK E T σ a v one).bind q := by
  unfold loadK
  repeat' (first | rfl | split)
theorem indexAddrK_bind (T : TypeId) (σ : Look) (x ix : AV) (q : AV → Option ρ) : indexAddrK E T σ x ix q = (indexAddrK E T σ x ix one).bind q := by
  unfold indexAddrK
  repeat' (first | rfl | (rw [cond'_bind]; rfl) | split)
theorem indexK_bind (T : TypeId) (x ix : AV) (q : AV → Option ρ) : indexK E T x ix q = (indexK E T x ix one).bind q := by
  unfold indexK
  repeat' (first | rfl | (rw [cond'_bind]; rfl) | split)
theorem appendK_bind (T : TypeId) (σ : Look) (nx : Nat) (s x : AV) (q : AV → Eff → Option ρ) : appendK E T σ nx s x q = (appendK E T σ nx s x two).bind fun p => q p.1 p.2 := by
  unfold appendK
  repeat' (first | rfl | (rw [cond'_bind]; rfl) | split)
theorem copyK_bind (T : TypeId) (σ : Look) (s x : AV) (q : AV → Eff → Option ρ) : copyK E T σ s x q = (copyK E T σ s x two).bind fun p => q p.1 p.2 := by
  unfold copyK
  repeat' (first | rfl | (rw [cond'_bind]; rfl) | split)
theorem builtinK_bind (b : Builtin) (Ts : List TypeId) (σ : Look) (nx : Nat) (vs : List AV) (q : AV → Eff → Option ρ) : builtinK E b Ts σ nx vs q = (builtinK E b Ts σ nx vs two).bind fun p => q p.1 p.2 := by
  unfold builtinK
  split
  · split <;> rfl
  · split
    · exact appendK_bind E _ _ _ _ _ _
    · rfl
  · exact copyK_bind E _ _ _ _ _
  · split <;> rfl
  · split <;> rfl
  · rfl
theorem sliceK_bind (T : TypeId) (σ : Look) (nx : Nat) (x : AV) (lo hi mx : Option AV) (q : AV → Eff → Option ρ) : sliceK E T σ nx x lo hi mx q = (sliceK E T σ nx x lo hi mx two).bind fun p => q p.1 p.2 := by
  unfold sliceK
  dsimp only
  repeat' (first | rfl | (rw [cond'_bind]; rfl) | split)
theorem pureK_bind (hN : PureNat E) (σ : Look) (nx : Nat) (g : FuncId) (args : List AV) (q : AV → Eff → Option ρ) : pureK E σ nx g args q = (pureK E σ nx g args two).bind fun p => q p.1 p.2 := by
  unfold pureK
  dsimp only
  split
  · rfl
  · split
    · rw [hN ρ, hN (AV × Eff), Option.bind_assoc]
      congr 1
      funext p
      repeat' (first | rfl | split)
    · rfl
def opR (o : Op) (v : Operand → Option AV) (σ : Look) (nx : Nat) : Option (AV × Eff) := opK E o v σ nx two
set_option maxHeartbeats 2000000 in
theorem opK_bind (hN : PureNat E) (o : Op) (v : Operand → Option AV) (σ : Look) (nx : Nat) (q : AV → Eff → Option ρ) : opK E o v σ nx q = (opR E o v σ nx).bind fun p => q p.1 p.2 := by
  unfold opR
  cases o
  case binOp op T x y z =>
    simp only [opK]
    split
    · rw [binK_bind E _ _ _ _ _ (fun z => q z []), binK_bind E _ _ _ _ _ (fun z => two z [])]
      cases binK E op T σ _ _ one <;> rfl
    · rfl
  case load T x =>
    simp only [opK]
    rw [loadK_bind E _ _ _ _ (fun z => q z []), loadK_bind E _ _ _ _ (fun z => two z [])]
    cases loadK E T σ x (v x) one <;> rfl
  case indexAddr T x i =>
    simp only [opK]
    split
    · rw [indexAddrK_bind E _ _ _ _ (fun z => q z []), indexAddrK_bind E _ _ _ _ (fun z => two z [])]
      cases indexAddrK E T σ _ _ one <;> rfl
    · rfl
  case index T x i =>
    simp only [opK]
    split
    · rw [indexK_bind E _ _ _ (fun z => q z []), indexK_bind E _ _ _ (fun z => two z [])]
      cases indexK E T _ _ one <;> rfl
    · rfl
  case slice T x lo hi mx =>
    simp only [opK]
    split
    · split
      · repeat' (first | rfl | split)
      · exact sliceK_bind E _ _ _ _ _ _ _ _
    · rfl
  case call c =>
    simp only [opK]
    split
    · exact builtinK_bind E _ _ _ _ _ _
    · split
      · split
        · split
          · rw [Option.bind_assoc]
            rfl
          · rfl
        · split
          · split
            · rw [cond'_bind]; rfl
            · rfl
          · exact pureK_bind E hN _ _ _ _ _
      · rfl
    · rfl
  case unOp op T x => cases op <;> simp only [opK] <;> repeat' (first | rfl | split)
  case makeFunc fn fs cs => cases fn <;> simp only [opK] <;> repeat' (first | rfl | split)
  all_goals
    simp only [opK]
    repeat' (first | rfl | (rw [cond'_bind]; rfl) | split)
end
end Go.AV
end
section
set_option linter.unusedVariables false
set_option linter.unusedSimpArgs false
namespace Go.AV
open Go Go.RowKit
def edgeStep (acc : Array Nat) (s : Nat) (e : Edge) : Nat := if Region.binds .any e then s ||| 2 ^ e.on ||| acc.getD e.on 0 else s
theorem before_eq (ops : Array Oper) : Region.before ops = ops.foldl (init := #[]) fun acc o => acc.push (o.after.foldl (edgeStep acc) 0) := rfl
theorem edge_fold (acc : Array Nat) : ∀ (es : List Edge) (s i : Nat), (es.foldl (edgeStep acc) s).testBit i = true ↔ s.testBit i = true ∨ ∃ e ∈ es, Region.binds .any e = true ∧ (e.on = i ∨ (acc.getD e.on 0).testBit i = true)
  | [], s, i => by simp
  | e :: es, s, i => by
    rw [List.foldl_cons, edge_fold acc es]
    unfold edgeStep
    constructor
    · rintro (h | ⟨e', h1, h2⟩)
      · split at h
        · rename_i hb
          rw [Nat.testBit_or, Nat.testBit_or, Nat.testBit_two_pow] at h
          simp only [Bool.or_eq_true, decide_eq_true_eq] at h
          rcases h with (h | h) | h
          · exact .inl h
          · exact .inr ⟨e, by simp, hb, .inl h⟩
          · exact .inr ⟨e, by simp, hb, .inr h⟩
        · exact .inl h
      · exact .inr ⟨e', by simp [h1], h2⟩
    · rintro (h | ⟨e', h1, h2, h3⟩)
      · left
        split
        · rw [Nat.testBit_or, Nat.testBit_or, h]; simp
        · exact h
      · rcases List.mem_cons.1 h1 with rfl | h1
        · left
          rw [if_pos h2, Nat.testBit_or, Nat.testBit_or, Nat.testBit_two_pow]
          rcases h3 with h3 | h3
          · simp [h3]
          · rw [h3]; simp
        · exact .inr ⟨e', h1, h2, h3⟩
theorem before_spec (ops : Array Oper) : (Region.before ops).size = ops.size ∧ ∀ j o, ops[j]? = some o → ∀ i, ((Region.before ops).getD j 0).testBit i = true ↔
    ∃ e ∈ o.after.toList, Region.binds .any e = true ∧ (e.on = i ∨ (e.on < j ∧ ((Region.before ops).getD e.on 0).testBit i = true)) := by
  rw [before_eq, ← Array.foldl_toList]
  have key : ∀ (os : List Oper) (acc : Array Nat) (done : List Oper), acc.size = done.length →
      (∀ j o, done[j]? = some o → ∀ i, (acc.getD j 0).testBit i = true ↔ ∃ e ∈ o.after.toList, Region.binds .any e = true ∧ (e.on = i ∨ (e.on < j ∧ (acc.getD e.on 0).testBit i = true))) →
      (os.foldl (fun acc o => acc.push (o.after.foldl (edgeStep acc) 0)) acc).size = (done ++ os).length ∧
      ∀ j o, (done ++ os)[j]? = some o → ∀ i, ((os.foldl (fun acc o => acc.push (o.after.foldl (edgeStep acc) 0)) acc).getD j 0).testBit i = true ↔
        ∃ e ∈ o.after.toList, Region.binds .any e = true ∧ (e.on = i ∨ (e.on < j ∧ ((os.foldl (fun acc o => acc.push (o.after.foldl (edgeStep acc) 0)) acc).getD e.on 0).testBit i = true)) := by
    intro os
    induction os with
    | nil =>
      intro acc done h1 h2
      simp only [List.foldl_nil, List.append_nil]
      exact ⟨h1, h2⟩
    | cons o os ih =>
      intro acc done h1 h2
      have := ih (acc.push (o.after.foldl (edgeStep acc) 0)) (done ++ [o]) (by simp [h1]) ?_
      · simpa using this
      · intro j o' hj i
        have hpush : ∀ k, k < acc.size → (acc.push (o.after.foldl (edgeStep acc) 0)).getD k 0 = acc.getD k 0 := by
          intro k hk
          simp [Array.getD_eq_getD_getElem?, Array.getElem?_push, Nat.ne_of_lt hk]
        rcases Nat.lt_or_ge j done.length with hlt | hge
        · rw [List.getElem?_append_left hlt] at hj
          rw [hpush j (by omega), h2 j o' hj i]
          constructor
          · rintro ⟨e, q1, q2, q3⟩
            refine ⟨e, q1, q2, q3.imp id fun ⟨q4, q5⟩ => ⟨q4, ?_⟩⟩
            rw [hpush _ (by omega)]; exact q5
          · rintro ⟨e, q1, q2, q3⟩
            refine ⟨e, q1, q2, q3.imp id fun ⟨q4, q5⟩ => ⟨q4, ?_⟩⟩
            rwa [hpush _ (by omega)] at q5
        · have hjl : j = done.length := by
            have := (List.getElem?_eq_some_iff.1 hj).1
            simp at this
            omega
          subst hjl
          simp only [List.getElem?_concat_length, Option.some.injEq] at hj
          subst hj
          obtain ⟨X, hX⟩ : ∃ X, X = o.after.foldl (edgeStep acc) 0 := ⟨_, rfl⟩
          rw [← hX] at hpush ⊢
          have e1 : (acc.push X).getD done.length 0 = X := by
            simp [Array.getD_eq_getD_getElem?, ← h1]
          rw [e1, hX, ← Array.foldl_toList, edge_fold]
          rw [Array.foldl_toList, ← hX]
          simp only [Nat.zero_testBit, Bool.false_eq_true, false_or]
          constructor
          · rintro ⟨e, q1, q2, q3⟩
            refine ⟨e, q1, q2, q3.imp id fun q5 => ?_⟩
            rcases Nat.lt_or_ge e.on acc.size with hl | hg
            · exact ⟨by omega, by rw [hpush _ hl]; exact q5⟩
            · simp [Array.getD_eq_getD_getElem?, Array.getElem?_eq_none hg] at q5
          · rintro ⟨e, q1, q2, q3⟩
            refine ⟨e, q1, q2, q3.imp id fun ⟨q4, q5⟩ => ?_⟩
            rwa [hpush _ (by omega)] at q5
  have := key ops.toList #[] [] rfl (by simp)
  simp only [List.nil_append] at this
  refine ⟨by simpa using this.1, fun j o hj i => this.2 j o (by simpa using hj) i⟩
def Closed (ops : Array Oper) (D : Nat → Bool) : Prop := ∀ k o, ops[k]? = some o → D k = true → ∀ e ∈ o.after.toList, Region.binds .any e = true → D e.on = true
theorem closed_before {ops : Array Oper} {D : Nat → Bool} (hD : Closed ops D) : ∀ (j : Nat) (o : Oper), ops[j]? = some o → (∀ e ∈ o.after.toList, Region.binds .any e = true → D e.on = true) →
    ∀ i, ((Region.before ops).getD j 0).testBit i = true → D i = true := by
  intro j
  induction j using Nat.strongRecOn with
  | _ j ih =>
    intro o ho he i hb
    obtain ⟨e, q1, q2, q3⟩ := ((before_spec ops).2 j o ho i).1 hb
    have hde := he e q1 q2
    rcases q3 with rfl | ⟨q4, q5⟩
    · exact hde
    · cases ho' : ops[e.on]? with
      | none =>
        have : ops.size ≤ e.on := Array.getElem?_eq_none_iff.1 ho'
        have hj := (Array.getElem?_eq_some_iff.1 ho).1
        omega
      | some o' => exact ih e.on q4 o' ho' (fun e' h1 h2 => hD e.on o' ho' hde e' h1 h2) i q5
end Go.AV
end
section
set_option linter.unusedVariables false
set_option linter.unusedSimpArgs false
namespace Go.AV
open Go Go.RowKit
structure Tc where
  ran : Bool
  v : AV
  e : Eff
  rd : List Nat
  nx : Nat
def news (E : Env) (o : Oper) (nx : Nat) : List Nat := (List.range (borns E o.op)).map (nx + ·)
def Tc.log (E : Env) (t : Tc) (o : Oper) : Log := if t.ran then ⟨news E o t.nx ++ t.rd, t.e.map (·.1)⟩ else ⟨[], []⟩
def guardA (ops : Array Oper) (g : Option (Nat × Bool)) (tm : List AV) : Option Bool :=
  match g with
  | none => some true
  | some (j, want) => match (ops[j]?).bind (·.dst) with
    | none => some false
    | some d => match tm[d]? with
      | some (.dat .bool b) => some (b == want)
      | some (.tup []) => some false
      | none => some false
      | _ => none
def after (o : Oper) (st : St) (t : Tc) : St := putDst (st.eff t.e) o.dst t.v
structure StepOk (E : Env) (ops : Array Oper) (o : Oper) (st : St) (t : Tc) : Prop where
  guard : guardA ops o.guard st.tm = some t.ran
  run : t.ran = true → opR E o.op (opdR (usesOf ops o) st.tm) (restrict st.σ t.rd) t.nx = some (t.v, t.e)
  lt : ∀ p ∈ t.e, p.1 < st.σ.length
  born : t.ran = true → borns E o.op ≠ 0 → ∀ i, i < borns E o.op → st.σ[t.nx + i]? = some .unborn
  nx : t.ran = true → borns E o.op = 0 → t.nx = st.σ.length
  skip : t.ran = false → t.v = .tup [] ∧ t.e = []
def Chain (E : Env) (ops : Array Oper) : List Oper → St → List Tc → St → Prop
  | [], st, [], st' => st' = st
  | o :: os, st, t :: ts, st' => StepOk E ops o st t ∧ Chain E ops os (after o st t) ts st'
  | _, _, _, _ => False
section
variable {E : Env} {ρ : Type} {r : ρ}
theorem set_same {α : Type} {l : List α} {d : Nat} {v : α} (h : l[d]? = some v) : l.set d v = l := by
  apply List.ext_getElem?
  intro i
  by_cases hi : i = d
  · subst hi
    have := (List.getElem?_eq_some_iff.1 h).1
    rw [List.getElem?_set_self this, h]
  · rw [List.getElem?_set_ne (Ne.symm hi)]
theorem guardK_eq {ops : Array Oper} {g : Option (Nat × Bool)} {st : St} {run skip : St → Option ρ} (h : guardK ops g st run skip = some r) :
    ∃ b, guardA ops g st.tm = some b ∧ (if b then run st else skip st) = some r := by
  unfold guardK at h
  unfold guardA
  split at h
  · exact ⟨true, rfl, h⟩
  · rename_i j want
    simp only
    split at h
    · rename_i hd
      simp only [hd]
      exact ⟨false, rfl, h⟩
    · rename_i d hd
      simp only [hd]
      split at h
      · rename_i b hb
        simp only [hb]
        refine ⟨b == want, rfl, ?_⟩
        cases b with
        | true =>
          simp only [cond'] at h
          rw [set_same hb] at h
          cases want <;> simpa using h
        | false =>
          simp only [cond'] at h
          rw [set_same hb] at h
          cases want <;> simpa using h
      · rename_i hb
        simp only [hb]
        exact ⟨false, rfl, h⟩
      · rename_i hb
        simp only [hb]
        exact ⟨false, rfl, h⟩
      · simp at h
theorem drawOps_trace (hN : PureNat E) {ops : Array Oper} {q : St → List Log → Option ρ} : ∀ (os : List Oper) (nx : Nat) (st : St) (l : List Log), drawOps E ops nx os st l q = some r →
    ∃ ts st', Chain E ops os st ts st' ∧ ts.length = os.length ∧ q st' (l ++ (os.zip ts).map fun p => p.2.log E p.1) = some r
  | [], nx, st, l, h => ⟨[], st, rfl, rfl, by simpa [drawOps] using h⟩
  | o :: os, nx, st, l, h => by
    simp only [drawOps, putK_eq, effK_eq] at h
    obtain ⟨b, hb, h⟩ := guardK_eq h
    cases b with
    | true =>
      simp only [if_true] at h
      split at h
      · rename_i hborn
        generalize hnx : (if borns E o.op = 0 then st.σ.length else nx) = nx' at h
        generalize hrd : rdOf o.op (fun i => st.σ[i]?) (o.op.operands.toList.filterMap (opdR (usesOf ops o) st.tm)) = rd at h
        rw [opK_bind E hN] at h
        cases hR : opR E o.op (opdR (usesOf ops o) st.tm) (restrict st.σ rd) nx' with
        | none => rw [hR] at h; simp at h
        | some p =>
          obtain ⟨v, e⟩ := p
          rw [hR] at h
          simp only [Option.bind_some] at h
          split at h
          · rename_i hall
            simp only [List.all_eq_true, List.mem_map, forall_exists_index, and_imp, forall_apply_eq_imp_iff₂, Bool.and_eq_true] at hall
            obtain ⟨ts, st', h1, h2, h3⟩ := drawOps_trace hN os _ _ _ h
            refine ⟨⟨true, v, e, rd, nx'⟩ :: ts, st', ⟨⟨hb, fun _ => hR, fun p hp => ?_, fun _ hb i hi => ?_, fun _ h => ?_, fun h => ?_⟩, h1⟩, by simp [h2], ?_⟩
            · have := (hall p hp).1
              simpa [Nat.blt_eq] using this
            · rw [if_neg hb] at hnx
              subst hnx
              rw [List.all_eq_true] at hborn
              have := hborn (nx + i) (List.mem_map.2 ⟨i, List.mem_range.2 hi, rfl⟩)
              split at this
              · rename_i hu; exact hu
              · simp at this
            · rw [if_pos h] at hnx; exact hnx.symm
            · simp at h
            · rw [List.append_assoc] at h3
              rw [List.zip_cons_cons, List.map_cons]
              have e1 : (Tc.mk true v e rd nx').log E o = ⟨(List.range (borns E o.op)).map (nx + ·) ++ rd, e.map (·.1)⟩ := by
                simp only [Tc.log, if_true, news]
                by_cases hz : borns E o.op = 0
                · rw [hz]; rfl
                · rw [if_neg hz] at hnx; rw [hnx]
              rw [e1]
              exact h3
          · simp at h
      · simp at h
    | false =>
      simp only [Bool.false_eq_true, if_false] at h
      obtain ⟨ts, st', h1, h2, h3⟩ := drawOps_trace hN os _ _ _ h
      refine ⟨⟨false, .tup [], [], [], 0⟩ :: ts, st', ⟨⟨hb, fun h => by simp at h, fun p hp => by simp at hp, fun h => by simp at h, fun h => by simp at h, fun _ => ⟨rfl, rfl⟩⟩, h1⟩, by simp [h2], ?_⟩
      rw [List.append_assoc] at h3
      rw [List.zip_cons_cons, List.map_cons]
      exact h3
theorem setAt_lt {σ : List Ent} {p : Nat × Ent} (h : p.1 < σ.length) : setAt σ p = σ.set p.1 p.2 := by simp [setAt, h]
theorem after_len (o : Oper) (st : St) (t : Tc) (h : ∀ p ∈ t.e, p.1 < st.σ.length) : (after o st t).σ.length = st.σ.length ∧ (after o st t).tm.length = st.tm.length ∧ (after o st t).out = st.out ∧ (after o st t).lp = st.lp := by
  have key : ∀ (e : Eff) (σ : List Ent), (∀ p ∈ e, p.1 < σ.length) → (e.foldl setAt σ).length = σ.length := by
    intro e
    induction e with
    | nil => exact fun _ _ => rfl
    | cons p e ih =>
      intro σ h
      rw [List.foldl_cons, setAt_lt (h p (by simp))]
      rw [ih _ (fun q hq => by simpa using h q (by simp [hq]))]
      simp
  unfold after putDst St.eff
  cases o.dst <;> simp [key t.e st.σ h]
theorem after_σ (o : Oper) (st : St) (t : Tc) (h : ∀ p ∈ t.e, p.1 < st.σ.length) {i : Nat} (hi : i ∉ t.e.map (·.1)) : (after o st t).σ[i]? = st.σ[i]? := by
  have key : ∀ (e : Eff) (σ : List Ent), (∀ p ∈ e, p.1 < σ.length) → i ∉ e.map (·.1) → (e.foldl setAt σ)[i]? = σ[i]? := by
    intro e
    induction e with
    | nil => exact fun _ _ _ => rfl
    | cons p e ih =>
      intro σ h hi
      simp only [List.map_cons, List.mem_cons, not_or] at hi
      rw [List.foldl_cons, setAt_lt (h p (by simp))]
      rw [ih _ (fun q hq => by simpa using h q (by simp [hq])) hi.2, List.getElem?_set_ne (Ne.symm hi.1)]
  have e : (after o st t).σ = t.e.foldl setAt st.σ := by
    unfold after putDst St.eff
    cases o.dst <;> rfl
  rw [e]
  exact key t.e st.σ h hi
theorem after_σ2 (o : Oper) (st st2 : St) (t : Tc) (h : ∀ p ∈ t.e, p.1 < st.σ.length) (hl : st2.σ.length = st.σ.length) {i : Nat} (hi : st.σ[i]? = st2.σ[i]?) : (after o st t).σ[i]? = (after o st2 t).σ[i]? := by
  have key : ∀ (e : Eff) (σ σ2 : List Ent), (∀ p ∈ e, p.1 < σ.length) → σ2.length = σ.length → σ[i]? = σ2[i]? → (e.foldl setAt σ)[i]? = (e.foldl setAt σ2)[i]? := by
    intro e
    induction e with
    | nil => exact fun _ _ _ _ h => h
    | cons p e ih =>
      intro σ σ2 h hl hi
      have hp := h p (by simp)
      rw [List.foldl_cons, List.foldl_cons, setAt_lt hp, setAt_lt (by omega)]
      refine ih _ _ (fun q hq => by simpa using h q (by simp [hq])) (by simpa using hl) ?_
      by_cases hip : i = p.1
      · subst hip
        rw [List.getElem?_set_self hp, List.getElem?_set_self (by omega)]
      · rw [List.getElem?_set_ne (Ne.symm hip), List.getElem?_set_ne (Ne.symm hip)]
        exact hi
  have e : ∀ st : St, (after o st t).σ = t.e.foldl setAt st.σ := by
    intro st
    unfold after putDst St.eff
    cases o.dst <;> rfl
  rw [e, e]
  exact key t.e st.σ st2.σ h hl hi
theorem after_tm (o : Oper) (st : St) (t : Tc) {d : Nat} (hd : o.dst ≠ some d) : (after o st t).tm[d]? = st.tm[d]? := by
  unfold after putDst St.eff
  cases ho : o.dst with
  | none => rfl
  | some k =>
    simp only
    rw [List.getElem?_set_ne]
    rintro rfl
    exact hd ho
theorem after_tm2 (o : Oper) (st st2 : St) (t : Tc) (hl : st2.tm.length = st.tm.length) {d : Nat} (hd : st.tm[d]? = st2.tm[d]?) : (after o st t).tm[d]? = (after o st2 t).tm[d]? := by
  unfold after putDst St.eff
  cases ho : o.dst with
  | none => exact hd
  | some k =>
    simp only
    by_cases hk : k = d
    · subst hk
      rcases Nat.lt_or_ge k st.tm.length with h1 | h1
      · rw [List.getElem?_set_self h1, List.getElem?_set_self (by omega)]
      · rw [List.getElem?_eq_none (by simpa using h1), List.getElem?_eq_none (by simp; omega)]
    · rw [List.getElem?_set_ne hk, List.getElem?_set_ne hk]; exact hd
theorem after_comm {o1 o2 : Oper} {t1 t2 : Tc} {st : St} (h1 : ∀ p ∈ t1.e, p.1 < st.σ.length) (h2 : ∀ p ∈ t2.e, p.1 < st.σ.length) (hd : ∀ d, o1.dst = some d → o2.dst ≠ some d)
    (he : ∀ i ∈ t1.e.map (·.1), i ∉ t2.e.map (·.1)) : after o1 (after o2 st t2) t1 = after o2 (after o1 st t1) t2 := by
  have a1 := after_len o1 st t1 h1
  have a2 := after_len o2 st t2 h2
  have b1 := after_len o1 (after o2 st t2) t1 (fun p hp => by rw [a2.1]; exact h1 p hp)
  have b2 := after_len o2 (after o1 st t1) t2 (fun p hp => by rw [a1.1]; exact h2 p hp)
  have hσ : (after o1 (after o2 st t2) t1).σ = (after o2 (after o1 st t1) t2).σ := by
    apply List.ext_getElem?
    intro i
    by_cases hi : i ∈ t1.e.map (·.1)
    · have hi2 := he i hi
      rw [after_σ o2 (after o1 st t1) t2 (fun p hp => by rw [a1.1]; exact h2 p hp) hi2]
      exact (after_σ2 o1 st (after o2 st t2) t1 h1 a2.1 (after_σ o2 st t2 h2 hi2).symm).symm
    · rw [after_σ o1 (after o2 st t2) t1 (fun p hp => by rw [a2.1]; exact h1 p hp) hi]
      exact after_σ2 o2 st (after o1 st t1) t2 h2 a1.1 (after_σ o1 st t1 h1 hi).symm
  have htm : (after o1 (after o2 st t2) t1).tm = (after o2 (after o1 st t1) t2).tm := by
    apply List.ext_getElem?
    intro d
    by_cases hdd : o1.dst = some d
    · have h2' := hd d hdd
      rw [after_tm o2 _ t2 h2']
      exact (after_tm2 o1 st (after o2 st t2) t1 a2.2.1 (after_tm o2 st t2 h2').symm).symm
    · rw [after_tm o1 _ t1 hdd]
      exact after_tm2 o2 st (after o1 st t1) t2 a1.2.1 (after_tm o1 st t1 hdd).symm
  have hout : (after o1 (after o2 st t2) t1).out = (after o2 (after o1 st t1) t2).out := by rw [b1.2.2.1, a2.2.2.1, b2.2.2.1, a1.2.2.1]
  have hlp : (after o1 (after o2 st t2) t1).lp = (after o2 (after o1 st t1) t2).lp := by rw [b1.2.2.2, a2.2.2.2, b2.2.2.2, a1.2.2.2]
  cases h : after o1 (after o2 st t2) t1
  cases h' : after o2 (after o1 st t1) t2
  rw [h, h'] at hσ htm hout hlp
  simp only at hσ htm hout hlp
  subst hσ; subst htm; subst hout; subst hlp
  rfl
end
end Go.AV
end
section
set_option linter.unusedVariables false
set_option linter.unusedSimpArgs false
namespace Go.AV
open Go Go.RowKit
def atD (D : Nat → Bool) : List (Oper × Tc) → Nat → St → St
  | [], _, st => st
  | x :: xs, k, st => atD D xs (k + 1) (match D k with
    | true => after x.1 st x.2
    | false => st)
def InB (n : Nat) (xs : List (Oper × Tc)) : Prop := ∀ x ∈ xs, ∀ p ∈ x.2.e, p.1 < n
section
variable {E : Env}
theorem InB.tail {n : Nat} {x : Oper × Tc} {xs : List (Oper × Tc)} (h : InB n (x :: xs)) : InB n xs := fun y hy => h y (by simp [hy])
theorem InB.head {n : Nat} {x : Oper × Tc} {xs : List (Oper × Tc)} (h : InB n (x :: xs)) {st : St} (hl : st.σ.length = n) : ∀ p ∈ x.2.e, p.1 < st.σ.length := fun p hp => by rw [hl]; exact h x (by simp) p hp
theorem step_len {n : Nat} {x : Oper × Tc} {xs : List (Oper × Tc)} (h : InB n (x :: xs)) {st : St} (hl : st.σ.length = n) (b : Bool) : (match b with
    | true => after x.1 st x.2
    | false => st).σ.length = n ∧ (match b with
    | true => after x.1 st x.2
    | false => st).tm.length = st.tm.length := by
  cases b with
  | true => exact ⟨(after_len x.1 st x.2 (h.head hl)).1.trans hl, (after_len x.1 st x.2 (h.head hl)).2.1⟩
  | false => exact ⟨hl, rfl⟩
theorem atD_len {n : Nat} (D : Nat → Bool) : ∀ {xs : List (Oper × Tc)} {k : Nat} {st : St}, InB n xs → st.σ.length = n → (atD D xs k st).σ.length = n ∧ (atD D xs k st).tm.length = st.tm.length
  | [], k, st, _, hl => ⟨hl, rfl⟩
  | x :: xs, k, st, h, hl => by
    simp only [atD]
    have := step_len h hl (D k)
    have h2 := atD_len D (xs := xs) (k := k + 1) h.tail this.1
    exact ⟨h2.1, h2.2.trans this.2⟩
theorem atD_none {D : Nat → Bool} : ∀ {xs : List (Oper × Tc)} {k : Nat} {st : St}, (∀ i, k ≤ i → D i = false) → atD D xs k st = st
  | [], _, _, _ => rfl
  | x :: xs, k, st, h => by
    simp only [atD, h k (Nat.le_refl _)]
    exact atD_none fun i hi => h i (by omega)
theorem agree_tm {n d : Nat} {D D' : Nat → Bool} : ∀ {xs : List (Oper × Tc)} {k : Nat} {st st' : St}, InB n xs → st.σ.length = n → st'.σ.length = n → st'.tm.length = st.tm.length → st.tm[d]? = st'.tm[d]? →
    (∀ i x, xs[i]? = some x → D (k + i) ≠ D' (k + i) → x.1.dst ≠ some d) → (atD D xs k st).tm[d]? = (atD D' xs k st').tm[d]?
  | [], _, _, _, _, _, _, _, h, _ => h
  | x :: xs, k, st, st', hb, h1, h2, h3, h, hx => by
    simp only [atD]
    have l1 := step_len hb h1 (D k)
    have l2 := step_len hb h2 (D' k)
    refine agree_tm hb.tail l1.1 l2.1 (by rw [l1.2, l2.2, h3]) ?_ fun i y hy hne => hx (i + 1) y (by simpa using hy) (by rwa [show k + (i + 1) = k + 1 + i by omega])
    have h0 := hx 0 x rfl
    simp only [Nat.add_zero] at h0
    cases hD : D k <;> cases hD' : D' k <;> simp only
    · exact h
    · rw [after_tm _ _ _ (h0 (by rw [hD, hD']; simp))]; exact h
    · rw [after_tm _ _ _ (h0 (by rw [hD, hD']; simp))]; exact h
    · exact after_tm2 x.1 st st' x.2 h3 h
theorem agree_σ {n d : Nat} {D D' : Nat → Bool} : ∀ {xs : List (Oper × Tc)} {k : Nat} {st st' : St}, InB n xs → st.σ.length = n → st'.σ.length = n → st.σ[d]? = st'.σ[d]? →
    (∀ i x, xs[i]? = some x → D (k + i) ≠ D' (k + i) → d ∉ x.2.e.map (·.1)) → (atD D xs k st).σ[d]? = (atD D' xs k st').σ[d]?
  | [], _, _, _, _, _, _, h, _ => h
  | x :: xs, k, st, st', hb, h1, h2, h, hx => by
    simp only [atD]
    have l1 := step_len hb h1 (D k)
    have l2 := step_len hb h2 (D' k)
    refine agree_σ hb.tail l1.1 l2.1 ?_ fun i y hy hne => hx (i + 1) y (by simpa using hy) (by rwa [show k + (i + 1) = k + 1 + i by omega])
    have h0 := hx 0 x rfl
    simp only [Nat.add_zero] at h0
    cases hD : D k <;> cases hD' : D' k <;> simp only
    · exact h
    · rw [after_σ _ _ _ (hb.head h2) (h0 (by rw [hD, hD']; simp))]; exact h
    · rw [after_σ _ _ _ (hb.head h1) (h0 (by rw [hD, hD']; simp))]; exact h
    · exact after_σ2 x.1 st st' x.2 (hb.head h1) (h2.trans h1.symm) h
def Apart (x y : Oper × Tc) : Prop := (∀ d, x.1.dst = some d → y.1.dst ≠ some d) ∧ ∀ i ∈ x.2.e.map (·.1), i ∉ y.2.e.map (·.1)
theorem atD_comm {n : Nat} {D : Nat → Bool} {x : Oper × Tc} (hx : ∀ p ∈ x.2.e, p.1 < n) : ∀ {xs : List (Oper × Tc)} {k : Nat} {st : St}, InB n xs → st.σ.length = n → (∀ i y, xs[i]? = some y → D (k + i) = true → Apart x y) →
    atD D xs k (after x.1 st x.2) = after x.1 (atD D xs k st) x.2
  | [], _, _, _, _, _ => rfl
  | y :: ys, k, st, hb, hl, h => by
    simp only [atD]
    have h0 := h 0 y rfl
    simp only [Nat.add_zero] at h0
    have hrest : ∀ i z, ys[i]? = some z → D (k + 1 + i) = true → Apart x z := fun i z hz hd => h (i + 1) z (by simpa using hz) (by rwa [show k + (i + 1) = k + 1 + i by omega])
    cases hD : D k with
    | false =>
      simp only
      exact atD_comm hx hb.tail hl hrest
    | true =>
      simp only
      have hap := h0 hD
      rw [← after_comm (o1 := x.1) (t1 := x.2) (by rw [hl]; exact hx) (hb.head hl) hap.1 hap.2]
      exact atD_comm hx hb.tail ((after_len y.1 st y.2 (hb.head hl)).1.trans hl) hrest
def ins (D : Nat → Bool) (j : Nat) : Nat → Bool := fun i => i == j || D i
theorem atD_congr {D D' : Nat → Bool} : ∀ {xs : List (Oper × Tc)} {k : Nat} {st : St}, (∀ i, k ≤ i → i < k + xs.length → D i = D' i) → atD D xs k st = atD D' xs k st
  | [], _, _, _ => rfl
  | x :: xs, k, st, h => by
    simp only [atD]
    rw [h k (Nat.le_refl _) (by simp)]
    exact atD_congr fun i h1 h2 => h i (by omega) (by simp; omega)
theorem atD_insert {n : Nat} {D : Nat → Bool} : ∀ {xs : List (Oper × Tc)} {k j : Nat} {st : St} {x : Oper × Tc}, InB n xs → st.σ.length = n → xs[j]? = some x → D (k + j) = false →
    (∀ i y, j < i → xs[i]? = some y → D (k + i) = true → Apart x y) → atD (ins D (k + j)) xs k st = after x.1 (atD D xs k st) x.2
  | [], _, _, _, _, _, _, h, _, _ => by simp at h
  | y :: ys, k, 0, st, x, hb, hl, h, hD, hap => by
    simp only [List.getElem?_cons_zero, Option.some.injEq] at h
    subst h
    simp only [Nat.add_zero] at hD ⊢
    simp only [atD, hD]
    have e0 : ins D k k = true := by simp [ins]
    rw [e0]
    simp only
    rw [atD_congr (D := ins D k) (D' := D) (fun i h1 h2 => by
      have : (i == k) = false := by simp; omega
      simp [ins, this])]
    exact atD_comm (hb y (by simp)) hb.tail hl fun i z hz hd => hap (i + 1) z (by omega) (by simpa using hz) (by rwa [show k + (i + 1) = k + 1 + i by omega])
  | y :: ys, k, j + 1, st, x, hb, hl, h, hD, hap => by
    simp only [atD]
    have e : ins D (k + (j + 1)) k = D k := by simp [ins]
    rw [e]
    have hl' := (step_len hb hl (D k)).1
    have := atD_insert (D := D) (k := k + 1) (j := j) (x := x) hb.tail hl' (by simpa using h) (by rwa [show k + 1 + j = k + (j + 1) by omega]) (fun i z h1 hz hd => hap (i + 1) z (by omega) (by simpa using hz) (by rwa [show k + (i + 1) = k + 1 + i by omega]))
    rw [show k + 1 + j = k + (j + 1) by omega] at this
    exact this
theorem chain_inB {ops : Array Oper} : ∀ {os : List Oper} {ts : List Tc} {st st' : St}, Chain E ops os st ts st' → InB st.σ.length (os.zip ts)
  | [], ts, st, st', h => by intro x hx; simp at hx
  | o :: os, [], st, st', h => h.elim
  | o :: os, t :: ts, st, st', ⟨h1, h2⟩ => by
    have hl := (after_len o st t h1.lt).1
    have := chain_inB h2
    rw [hl] at this
    intro x hx
    rcases List.mem_cons.1 hx with rfl | hx
    · exact h1.lt
    · exact this x hx
theorem chain_end {ops : Array Oper} {D : Nat → Bool} : ∀ {os : List Oper} {ts : List Tc} {st st' : St} {k : Nat}, Chain E ops os st ts st' → (∀ i, k ≤ i → i < k + os.length → D i = true) → atD D (os.zip ts) k st = st'
  | [], [], st, st', k, h, _ => h.symm
  | [], _ :: _, st, st', k, h, _ => h.elim
  | o :: os, [], st, st', k, h, _ => h.elim
  | o :: os, t :: ts, st, st', k, ⟨h1, h2⟩, hD => by
    simp only [List.zip_cons_cons, atD, hD k (Nat.le_refl _) (by simp)]
    exact chain_end h2 fun i a b => hD i (by omega) (by simp; omega)
theorem chain_at {ops : Array Oper} : ∀ {os : List Oper} {ts : List Tc} {st st' : St} {k j : Nat} {x : Oper × Tc}, Chain E ops os st ts st' → (os.zip ts)[j]? = some x →
    StepOk E ops x.1 (atD (fun i => decide (i < k + j)) (os.zip ts) k st) x.2
  | [], ts, st, st', k, j, x, h, hx => by simp at hx
  | o :: os, [], st, st', k, j, x, h, hx => h.elim
  | o :: os, t :: ts, st, st', k, 0, x, ⟨h1, h2⟩, hx => by
    simp only [List.zip_cons_cons, List.getElem?_cons_zero, Option.some.injEq] at hx
    subst hx
    rw [atD_none (fun i hi => by simp; omega)]
    exact h1
  | o :: os, t :: ts, st, st', k, j + 1, x, ⟨h1, h2⟩, hx => by
    have := chain_at (k := k + 1) (j := j) h2 (by simpa using hx)
    simp only [List.zip_cons_cons, atD]
    have e : decide (k < k + (j + 1)) = true := by simp
    rw [e]
    rw [show k + (j + 1) = k + 1 + j by omega]
    exact this
end
end Go.AV
end
