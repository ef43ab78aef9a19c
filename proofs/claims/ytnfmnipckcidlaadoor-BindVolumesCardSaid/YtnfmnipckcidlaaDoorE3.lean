/- The engine, part 3: the runs of loads and stores. -/
import Derived.Test.YtnfmnipckcidlaaDoorE2
set_option linter.unusedVariables false
set_option linter.unusedSimpArgs false
namespace Go.Eng
open Go.RowKit (Below)

theorem rep_av1 (ρ : Loc) (M : Mem) (G : Nat → Bool → Prop) (v : Value) : rep ρ M G (av1 v) v := by
  unfold av1
  split <;> simp [rep]
theorem repL_av1 (ρ : Loc) (M : Mem) (G : Nat → Bool → Prop) : ∀ (l : List Value), repL ρ M G (l.map av1) l
  | [] => by simp [repL]
  | v :: l => by simp only [List.map_cons, repL]; exact ⟨rep_av1 ρ M G v, repL_av1 ρ M G l⟩
theorem rep_avOf (ρ : Loc) (M : Mem) (G : Nat → Bool → Prop) (v : Value) : rep ρ M G (avOf v) v := by
  unfold avOf
  split
  · rename_i cs
    simp only [rep]
    exact ⟨cs.toList, rfl, repL_av1 ρ M G _⟩
  · exact rep_av1 ρ M G v

section
variable {P : Program}
theorem run_isAgg (t : TypeId) (w : World) (h : (P.underlying t).isSome = true) : (isAgg t).run P w = .ok (tagg P t) w := by
  obtain ⟨d, hd⟩ := Option.isSome_iff_exists.1 h
  simp only [isAgg, Sem.run_bind, run_underlying hd, Result.andThen_ok]
  unfold tagg
  rw [hd]
  cases d <;> simp
theorem run_typeInfo {t : TypeId} {i : TypeInfo} (h : P.info? t = some i) (w : World) : (typeInfo t).run P w = .ok i w := by simp [typeInfo, h]
theorem run_sizeOf (t : TypeId) (w : World) (h : (P.info? t).isSome = true) : (sizeOf t).run P w = .ok (tsize P t) w := by
  obtain ⟨i, hi⟩ := Option.isSome_iff_exists.1 h
  simp [sizeOf, run_typeInfo hi, tsize, hi]
theorem run_zeroValue {t : TypeId} {i : TypeInfo} {z : Value} (h : P.info? t = some i) (hz : i.zero = some z) (w : World) : (zeroValue t).run P w = .ok z w := by simp [zeroValue, run_typeInfo h, hz]

theorem run_loadCellsFrom {w : World} {b o : Nat} : ∀ (vs : List Value) (i : Nat) (acc : Array Value), (∀ j v, vs[j]? = some v → w.cell? ⟨b, o + i + j, none⟩ = some v) →
    (loadCellsFrom ⟨b, o, none⟩ i vs.length acc).run P w = .ok (acc ++ vs.toArray) w
  | [], i, acc, _ => by simp [loadCellsFrom]
  | v :: vs, i, acc, h => by
    have h0 : w.cell? ⟨b, o + i, none⟩ = some v := by have := h 0 v rfl; simpa using this
    have ha : (⟨b, o, none⟩ : Addr).add i = ⟨b, o + i, none⟩ := Addr.add_lit b o i
    simp only [List.length_cons, loadCellsFrom, Sem.run_bind, ha, run_load, h0, Result.andThen_ok]
    rw [run_loadCellsFrom vs (i + 1) (acc.push v) (fun j u hj => by have := h (j + 1) u (by simpa using hj); rw [← this]; congr 2; omega)]
    simp
theorem run_loadCells {w : World} {b o n : Nat} (vs : List Value) (hn : vs.length = n) (h : ∀ j v, vs[j]? = some v → w.cell? ⟨b, o + j, none⟩ = some v) :
    (loadCells ⟨b, o, none⟩ n).run P w = .ok ⟨vs⟩ w := by
  subst hn
  unfold loadCells
  rw [run_loadCellsFrom vs 0 #[] (fun j v hj => by simpa using h j v hj)]
  simp
/-- What a load comes to, of cells that are known. -/
theorem run_loadVar_of {w : World} {t : TypeId} {b off : Nat} {cs : List AV} {x : AV} {R : AV → Value → Prop} (hx : loadFrom P t cs off = some x)
    (o : Nat) (hc : ∀ j y, cs[j]? = some y → ∃ u, w.cell? ⟨b, o + j, none⟩ = some u ∧ R y u) (hagg : ∀ (ys : List AV) (us : List Value), ys.length = us.length → (∀ (j : Nat) (y : AV) (u : Value), ys[j]? = some y → us[j]? = some u → R y u) → R (.agg ys) (.agg ⟨us⟩)) :
    ∃ v, (loadVar t ⟨b, o + off, none⟩).run P w = .ok v w ∧ R x v := by
  unfold loadFrom at hx
  split at hx
  case isFalse => cases hx
  rename_i hui
  obtain ⟨hu, hi⟩ : (P.underlying t).isSome = true ∧ (P.info? t).isSome = true := by simpa using hui
  by_cases hg : tagg P t = true
  · rw [if_pos hg] at hx
    split at hx
    · rename_i hle
      injection hx with hx
      subst hx
      obtain ⟨us, hl, hus⟩ : ∃ us : List Value, us.length = tsize P t ∧ ∀ j, j < tsize P t → ∃ y u, cs[off + j]? = some y ∧ us[j]? = some u ∧ w.cell? ⟨b, o + off + j, none⟩ = some u ∧ R y u := by
        have key : ∀ n, n ≤ tsize P t → ∃ us : List Value, us.length = n ∧ ∀ j, j < n → ∃ y u, cs[off + j]? = some y ∧ us[j]? = some u ∧ w.cell? ⟨b, o + off + j, none⟩ = some u ∧ R y u := by
          intro n
          induction n with
          | zero => exact fun _ => ⟨[], rfl, fun j hj => absurd hj (by omega)⟩
          | succ n ih =>
            intro hn
            obtain ⟨us, hl, hus⟩ := ih (by omega)
            have hlt : off + n < cs.length := by omega
            obtain ⟨u, hu1, hu2⟩ := hc (off + n) cs[off + n] (List.getElem?_eq_getElem hlt)
            refine ⟨us ++ [u], by simp [hl], fun j hj => ?_⟩
            rcases Nat.lt_or_ge j n with h | h
            · obtain ⟨y, u', h1, h2, h3, h4⟩ := hus j h
              exact ⟨y, u', h1, by rw [List.getElem?_append_left (by omega)]; exact h2, h3, h4⟩
            · obtain rfl : j = n := by omega
              exact ⟨cs[off + j], u, List.getElem?_eq_getElem hlt, by rw [List.getElem?_append_right (by omega)]; simp [hl], by rw [Nat.add_assoc]; exact hu1, hu2⟩
        exact key _ (Nat.le_refl _)
      refine ⟨.agg ⟨us⟩, ?_, hagg _ _ (by simp [List.length_take, List.length_drop, hl]; omega) (fun j y u h1 h2 => ?_)⟩
      · simp only [loadVar, Sem.run_bind, run_isAgg t w hu, Result.andThen_ok, hg, if_true, run_sizeOf t w hi]
        rw [run_loadCells us hl (fun j v hj => by
          obtain ⟨y, u, _, h2, h3, _⟩ := hus j (by have := (List.getElem?_eq_some_iff.1 hj).1; omega)
          rw [hj] at h2; injection h2 with h2; subst h2; exact h3)]
        rfl
      · have hj : j < tsize P t := by have := (List.getElem?_eq_some_iff.1 h2).1; omega
        obtain ⟨y', u', e1, e2, _, e4⟩ := hus j hj
        rw [List.getElem?_take_of_lt hj, List.getElem?_drop, e1] at h1
        injection h1 with h1
        rw [h2] at e2
        injection e2 with e2
        subst h1; subst e2
        exact e4
    · cases hx
  · rw [if_neg hg] at hx
    obtain ⟨u, h1, h2⟩ := hc off x hx
    refine ⟨u, ?_, h2⟩
    have hg' : tagg P t = false := by simpa using hg
    simp only [loadVar, Sem.run_bind, run_isAgg t w hu, Result.andThen_ok, hg', Bool.false_eq_true, if_false, run_load, h1]

/-- The row of cells in block r is turned. -/
def putCells (w : World) (r : Nat) (vs : List Value) (t : TypeId) : World := { w with heap := w.heap.setIfInBounds r (.cells ⟨vs⟩ t (0, 0)) }
theorem putCells_at {w : World} {r : Nat} {vs : List Value} {t : TypeId} (h : r < w.heap.size) : (putCells w r vs t).heap[r]? = some (.cells ⟨vs⟩ t (0, 0)) := by simp [putCells, h]
theorem putCells_ne {w : World} {r k : Nat} {vs : List Value} {t : TypeId} (h : k ≠ r) : (putCells w r vs t).heap[k]? = w.heap[k]? := by simp [putCells, Array.getElem?_setIfInBounds_ne (Ne.symm h)]
theorem putCells_size {w : World} {r : Nat} {vs : List Value} {t : TypeId} : (putCells w r vs t).heap.size = w.heap.size := by simp [putCells]
theorem putCells_below {B : Nat → Prop} {w : World} {r : Nat} {vs : List Value} {t : TypeId} (h : ¬ B r) : Keeps B w (putCells w r vs t) :=
  ⟨rfl, rfl, rfl, by rw [putCells_size]; exact Nat.le_refl _, fun k hk => putCells_ne (fun e => h (e ▸ hk))⟩
theorem setCell_putCells {w : World} {r off : Nat} {vs : List Value} {t : TypeId} (h : w.heap[r]? = some (.cells ⟨vs⟩ t (0, 0))) (u : Value) :
    w.setCell ⟨r, off, none⟩ u = putCells w r (vs.set off u) t := by
  unfold World.setCell putCells
  congr 1
  apply Array.ext_getElem?
  intro k
  rw [Array.getElem?_modify, Array.getElem?_setIfInBounds]
  by_cases e : r = k
  · subst e
    have hlt := (Array.getElem?_eq_some_iff.1 h).1
    rw [if_pos rfl, if_pos rfl, if_pos hlt, h]
    simp
  · simp [e]
theorem putCells_same {w : World} {r : Nat} {vs : List Value} {t : TypeId} (h : w.heap[r]? = some (.cells ⟨vs⟩ t (0, 0))) : putCells w r vs t = w := by
  unfold putCells
  have : w.heap.setIfInBounds r (.cells ⟨vs⟩ t (0, 0)) = w.heap := by
    apply Array.ext_getElem?
    intro k
    rw [Array.getElem?_setIfInBounds]
    by_cases e : r = k
    · subst e
      have hlt := (Array.getElem?_eq_some_iff.1 h).1
      rw [if_pos rfl, if_pos hlt, h]
    · simp [e]
  rw [this]
theorem putCells_twice {w : World} {r : Nat} {vs us : List Value} {t : TypeId} : putCells (putCells w r vs t) r us t = putCells w r us t := by
  unfold putCells
  congr 1
  apply Array.ext_getElem?
  intro k
  simp only [Array.getElem?_setIfInBounds, Array.size_setIfInBounds]
  by_cases e : r = k <;> simp [e]
theorem cell_of_block {w : World} {r off : Nat} {vs : List Value} {t : TypeId} (h : w.heap[r]? = some (.cells ⟨vs⟩ t (0, 0))) : w.cell? ⟨r, off, none⟩ = vs[off]? := by
  unfold World.cell?
  simp [h]
theorem run_storeCells {r : Nat} {t : TypeId} {o : Nat} : ∀ (us : List Value) (vs : List Value) (i : Nat) (w : World), w.heap[r]? = some (.cells ⟨vs⟩ t (0, 0)) → o + i + us.length ≤ vs.length → (∀ u ∈ us, u.oneCell' = true) →
    (storeCells ⟨r, o, none⟩ us i).run P w = .ok () (putCells w r (spliceV vs (o + i) us) t)
  | [], vs, i, w, h, _, _ => by
    simp only [storeCells, Sem.run_pure]
    rw [splice_nil, putCells_same h]
  | u :: us, vs, i, w, h, hl, h1 => by
    have ha : (⟨r, o, none⟩ : Addr).add i = ⟨r, o + i, none⟩ := Addr.add_lit r o i
    have hlt : o + i < vs.length := by simp at hl; omega
    have hc : w.cell? ⟨r, o + i, none⟩ = some vs[o + i] := by rw [cell_of_block h]; exact List.getElem?_eq_getElem hlt
    have hf : w.frozen? ⟨r, o + i, none⟩ = false := by unfold World.frozen?; simp [h]
    have hr := (Array.getElem?_eq_some_iff.1 h).1
    simp only [storeCells, Sem.run_bind, ha]
    rw [run_store P w _ u .plain (h1 u (by simp))]
    simp only [hc, hf, Bool.false_eq_true, if_false, Result.andThen_ok]
    rw [setCell_putCells h, run_storeCells us (vs.set (o + i) u) (i + 1) _ (putCells_at hr) (by simp at hl ⊢; omega) (fun x hx => h1 x (by simp [hx])), putCells_twice]
    rw [show o + (i + 1) = (o + i) + 1 from by omega, splice_set _ _ _ _ hlt]
end
end Go.Eng
