/- The engine, part 16: a law's arguments, its call, and what is read behind it. -/
import Derived.Test.YtnfmnipckcidlaaDoorE15
set_option linter.unusedVariables false
set_option linter.unusedSimpArgs false
namespace Go.Eng
open Go.RowKit (Below)

theorem rep_of_repD {ρ : Loc} {M : Mem} {s : Sh} {x : AV} {v : Value} (hf : Fits s x) (h : repD M (DEP + 1) x v) : rep ρ M noG x v := by
  cases hf <;> simp only [repD, sc] at h <;> simp only [rep] <;> exact h
theorem repL_of_repD {ρ : Loc} {M : Mem} : ∀ {l : List Sh} {xs : List AV} {vs : List Value}, FitsL l xs → repDL M (DEP + 1) xs vs → repL ρ M noG xs vs
  | [], [], [], _, _ => by simp [repL]
  | s :: l, x :: xs, v :: vs, hf, h => by simp only [repL]; exact ⟨rep_of_repD hf.1 h.1, repL_of_repD hf.2 h.2⟩
  | [], [], _ :: _, _, h => h.elim
  | [], _ :: _, _, hf, _ => hf.elim
  | _ :: _, [], _, hf, _ => hf.elim
  | _ :: _, _ :: _, [], _, h => h.elim
/-- The shapes of arguments: is it a struct or an array; its cells. -/
def argShapes (P : Program) : List TypeId → Option (List (Bool × List Sh))
  | [] => some []
  | t :: ts => match shOf P 9 (DEP + 1) t, argShapes P ts with
    | some l, some r => some ((tagg P t, l) :: r)
    | _, _ => none
def ArgsFit : List (Bool × List Sh) → List AV → Prop
  | [], [] => True
  | (g, l) :: r, x :: xs => (∃ avs, FitsL l avs ∧ x = (if g then .agg avs else avs.headD .unk)) ∧ ArgsFit r xs
  | _, _ => False
section
variable {H : Type} {enc : TypeId × Value → H} {P : Program} {W : World} {sp : Nat → Bool} {held : Bool}
theorem open_arg {t : TypeId} {l : List Sh} {v : Value} {d : DataW H} {p : List MemPlace} {ρ : Loc} (hs : shOf P 9 (DEP + 1) t = some l) (h : DataW.Trod enc P W 0 sp held t v d p) (hval : Value.okWide P W .any 0 t v)
    (hw : ∀ k ∈ d.weights P t, k ≤ reachBytes) : ∃ avs, FitsL l avs ∧ rep ρ (memOf W) noG (if tagg P t then .agg avs else avs.headD .unk) v := by
  obtain ⟨fuel, ht⟩ := h
  obtain ⟨avs, h1, h2⟩ := open_sh 9 (DEP + 1) t l fuel _ _ hs ht hw
  refine ⟨avs, h2, ?_⟩
  have h3 := repL_of_repD (ρ := ρ) h2 h1
  have single : (∃ u : Value, v.cells.toList = [u] ∧ v = u) → tagg P t = false → rep ρ (memOf W) noG (if tagg P t then .agg avs else avs.headD .unk) v := by
    rintro ⟨u, hu, rfl⟩ hg
    rw [hu] at h3
    rw [if_neg (by rw [hg]; simp)]
    match avs, h3 with
    | [x], h3 => simpa [repL] using h3
    | [], h3 => simp [repL] at h3
    | _ :: _ :: _, h3 => simp [repL] at h3
  have hshape := hs
  simp only [shOf] at hshape
  split at hshape
  · rename_i k hu
    obtain ⟨n, rfl⟩ := Go.WideShapes.okWide_int hu hval
    exact single ⟨_, rfl, rfl⟩ (by simp [tagg, hu])
  · rename_i hu
    obtain ⟨n, rfl⟩ := Go.WideShapes.okWide_bool hu hval
    exact single ⟨_, rfl, rfl⟩ (by simp [tagg, hu])
  · rename_i hu
    obtain ⟨n, rfl⟩ := Go.WideShapes.okWide_string hu hval
    exact single ⟨_, rfl, rfl⟩ (by simp [tagg, hu])
  · rename_i e hu
    obtain ⟨a, n, c, rfl⟩ := Go.WideShapes.okWide_slice hu hval
    exact single ⟨_, rfl, rfl⟩ (by simp [tagg, hu])
  · rename_i fs hu
    have hg : tagg P t = true := by simp [tagg, hu]
    unfold Value.okWide at hval
    simp only [hu] at hval
    obtain ⟨cs, rfl, _⟩ := hval
    rw [if_pos hg]
    simp only [rep]
    exact ⟨cs.toList, by simp, h3⟩
  · rename_i m e hu
    have hg : tagg P t = true := by simp [tagg, hu]
    unfold Value.okWide at hval
    simp only [hu] at hval
    obtain ⟨cs, rfl, _⟩ := hval
    rw [if_pos hg]
    simp only [rep]
    exact ⟨cs.toList, by simp, h3⟩
  · cases hshape
theorem open_args {ρ : Loc} : ∀ {ts : List TypeId} {vs : List Value} {ds : List (DataW H)} {p : List MemPlace} {r : List (Bool × List Sh)}, argShapes P ts = some r → DataW.TrodAll enc P W 0 sp held ts vs ds p →
    (∀ (j : Nat) t v, ts[j]? = some t → vs[j]? = some v → Value.okWide P W .any 0 t v) → (∀ k ∈ DataW.weightsEach P ts ds, k ≤ reachBytes) → ∃ xs, ArgsFit r xs ∧ repL ρ (memOf W) noG xs vs
  | [], vs, ds, p, r, hs, h, _, _ => by
    obtain ⟨rfl, _, _⟩ := Go.ChangeShapes.trodAll_nil h
    simp only [argShapes, Option.some.injEq] at hs
    subst hs
    exact ⟨[], trivial, by simp [repL]⟩
  | t :: ts, vs, ds, p, r, hs, h, hval, hw => by
    obtain ⟨v, vs', d, ds', p1, q1, rfl, rfl, _, ht, hts⟩ := Go.ChangeShapes.trodAll_cons h
    simp only [argShapes] at hs
    split at hs
    · rename_i l r' hl hr
      injection hs with hs
      subst hs
      simp only [DataW.weightsEach, List.mem_append] at hw
      obtain ⟨avs, a1, a2⟩ := open_arg (ρ := ρ) hl ht (hval 0 t v rfl rfl) fun k hk => hw k (.inl hk)
      obtain ⟨xs, b1, b2⟩ := open_args (ρ := ρ) hr hts (fun j t' v' h1 h2 => hval (j + 1) t' v' (by simpa using h1) (by simpa using h2)) fun k hk => hw k (.inr hk)
      exact ⟨_ :: xs, ⟨⟨avs, a1, rfl⟩, b1⟩, by simp only [repL]; exact ⟨a2, b2⟩⟩
    · cases hs
theorem trodAll_lt {held : Bool} : ∀ {ts : List TypeId} {vs : List Value} {ds : List (DataW H)} {p : List MemPlace}, DataW.TrodAll enc P W 0 sp held ts vs ds p → ∀ x ∈ p, x.block < W.heap.size
  | [], vs, ds, p, h => by obtain ⟨_, _, rfl⟩ := Go.ChangeShapes.trodAll_nil h; simp
  | t :: ts, vs, ds, p, h => by
    obtain ⟨v, vs', d, ds', p1, q1, rfl, rfl, rfl, ht, hts⟩ := Go.ChangeShapes.trodAll_cons h
    intro x hx
    rcases List.mem_append.1 hx with hx | hx
    · obtain ⟨m, hm⟩ := ht
      exact DataW.trod_lt m _ _ _ hm x hx
    · exact trodAll_lt hts x hx
/-- All arguments read as they did. -/
theorem below_all {W' : World} (hl : laidOutB P = true) (hb : Below W.heap.size W W') : ∀ {ts : List TypeId} {vs : List Value} {ds : List (DataW H)} {p : List MemPlace}, (ts.all fun t => P.readableRec t && decide (t < P.types.size)) = true → DataW.TrodAll enc P W 0 (fun _ => true) true ts vs ds p →
    DataW.TrodAll enc P W' 0 (fun b => decide (b < W.heap.size)) true ts vs ds p
  | [], vs, ds, p, _, h => by
    obtain ⟨rfl, rfl, rfl⟩ := Go.ChangeShapes.trodAll_nil h
    exact Go.ChangeShapes.trodAll_mk0
  | t :: ts, vs, ds, p, hr, h => by
    have hlt := trodAll_lt h
    obtain ⟨v, vs', d, ds', p1, q1, rfl, rfl, rfl, ht, hts⟩ := Go.ChangeShapes.trodAll_cons h
    simp only [List.all_cons, Bool.and_eq_true, decide_eq_true_eq] at hr
    exact ⟨p1, q1, Below.trod hl hr.1.1 hr.1.2 ht hb fun x hx => hlt x (List.mem_append_left _ hx), below_all hl hb (by simpa using hr.2) hts, rfl⟩
end
/-- A law's call. -/
theorem calls_of_law {P : Program} {n : FuncId} {xs : List AV} {vs : List Value} {W : World} (hK : KSound P n xs [] 0 (.bool true) []) (hrep : repL ⟨fun _ => none, fun _ => none⟩ (memOf W) noG xs vs) (hG : ∀ w', (∀ k, k < W.heap.size → w'.heap[k]? = W.heap[k]?) → Globs.G w') :
    Calls P n ⟨vs⟩ W fun e w' => e = .returned (.bool true) ∧ Below W.heap.size W w' := by
  refine (hK (fun b => b < W.heap.size) W (memOf W) [] W ⟨fun _ => none, fun _ => none⟩ (memOf W) vs ⟨fun id => by simp [hget, okObj], fun _ _ => rfl, fun r i h1 => by simp at h1, fun _ _ _ h => h, fun _ _ _ => rfl, Keeps.refl _ _, fun _ h => h, hG⟩ (fun id h => by simp [hget] at h) (by simp) hrep).mono ?_
  rintro e w' ⟨v, ρ', M', rfl, _, _, h3, h4⟩
  simp only [rep] at h4
  subst h4
  exact ⟨rfl, h3.below.below⟩
end Go.Eng
