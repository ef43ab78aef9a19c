/- Topo: plain laws: what a text says. -/
import Derived.Test.YtbjlmmeabonbpaaDoorDPL1
import Derived.Test.YtbjlmmeabonbpaaDoorDLawA
set_option linter.unusedVariables false
set_option linter.unusedSimpArgs false
set_option maxRecDepth 100000
namespace Go.Proofs.YtbjlmmeabonbpaaDoor
open Go Go.Eng
theorem parts_eq : ∀ (n : Nat) (s : ByteArray) (acc : List XTerm), partsMu true s < n → s.size < 4611686018427387904 → topo_Term_4LF n s true acc = r02_ParseLF (split1 s (⟨#[44]⟩ : ByteArray)) acc
  | 0, _, _, h, _ => absurd h (Nat.not_lt_zero _)
  | n + 1, s, acc, h, hs => by
    rw [partsMu_true] at h
    rw [split_cut s 44 hs]
    unfold topo_Term_4LF
    rw [cond_true]
    have hc := cut_size s (⟨#[44]⟩ : ByteArray) rfl hs
    cases hb : (strings_CutF s (⟨#[44]⟩ : ByteArray)).2.2 with
    | false =>
      rw [cond_false]
      have hm := cut_miss s 44 hs hb
      unfold r02_ParseLF
      rw [hm]
      dsimp only
      cases (!((strings_CutF s (⟨#[61]⟩ : ByteArray)).2.2)) with
      | true => rfl
      | false =>
        rw [cond_false, cond_false]
        cases n with
        | zero => omega
        | succ n => rfl
    | true =>
      rw [cond_true]
      have hz := hc.2.2 hb
      unfold r02_ParseLF
      cases (!((strings_CutF (strings_CutF s (⟨#[44]⟩ : ByteArray)).1 (⟨#[61]⟩ : ByteArray)).2.2)) with
      | true => rfl
      | false =>
        rw [cond_false, cond_false]
        exact parts_eq n _ _ (by rw [partsMu_true]; omega) (by omega)
/-- The same of labels. -/
def labLF : List ByteArray → List XLabel → Bool × List XLabel
  | [], v => (false, v)
  | o :: r, v => cond (!((strings_CutF o (⟨#[61]⟩ : ByteArray)).2.2)) (true, default) (labLF r (v ++ [⟨(strings_CutF o (⟨#[61]⟩ : ByteArray)).1, (strings_CutF o (⟨#[61]⟩ : ByteArray)).2.1⟩]))
theorem partsL_eq : ∀ (n : Nat) (s : ByteArray) (acc : List XLabel), partsMu true s < n → s.size < 4611686018427387904 → topo_Label_6LF n s true acc = labLF (split1 s (⟨#[44]⟩ : ByteArray)) acc
  | 0, _, _, h, _ => absurd h (Nat.not_lt_zero _)
  | n + 1, s, acc, h, hs => by
    rw [partsMu_true] at h
    rw [split_cut s 44 hs]
    unfold topo_Label_6LF
    rw [cond_true]
    have hc := cut_size s (⟨#[44]⟩ : ByteArray) rfl hs
    cases hb : (strings_CutF s (⟨#[44]⟩ : ByteArray)).2.2 with
    | false =>
      rw [cond_false]
      have hm := cut_miss s 44 hs hb
      unfold labLF
      rw [hm]
      dsimp only
      cases (!((strings_CutF s (⟨#[61]⟩ : ByteArray)).2.2)) with
      | true => rfl
      | false =>
        rw [cond_false, cond_false]
        cases n with
        | zero => omega
        | succ n => rfl
    | true =>
      rw [cond_true]
      have hz := hc.2.2 hb
      unfold labLF
      cases (!((strings_CutF (strings_CutF s (⟨#[44]⟩ : ByteArray)).1 (⟨#[61]⟩ : ByteArray)).2.2)) with
      | true => rfl
      | false =>
        rw [cond_false, cond_false]
        exact partsL_eq n _ _ (by rw [partsMu_true]; omega) (by omega)
theorem size_ne {s : ByteArray} (h : ¬ s = (⟨#[]⟩ : ByteArray)) : 1 ≤ s.size := by
  have h1 := empty_iff s
  rw [decide_eq_false h] at h1
  exact of_decide_eq_true h1.symm
theorem parse_eq (s : ByteArray) (h : s.size ≤ 4294967280) : topo_ParseF s = r02_ParseF s := by
  have hg := topo_Term_4_good s h
  unfold topo_ParseF r02_ParseF
  by_cases he : s = (⟨#[]⟩ : ByteArray)
  · subst he
    rfl
  · have e : topo_Term_4F s = cond (r02_ParseLF (split1 s (⟨#[44]⟩ : ByteArray)) []).1 (false, []) (true, (r02_ParseLF (split1 s (⟨#[44]⟩ : ByteArray)) []).2) := by
      unfold topo_Term_4F
      rw [decide_eq_false he, Bool.not_false, parts_eq _ s [] (by rw [partsMu_true]; omega) (by omega)]
    rw [decide_eq_false he, cond_false]
    rw [e] at hg ⊢
    cases hb : (r02_ParseLF (split1 s (⟨#[44]⟩ : ByteArray)) []).1 with
    | true => rfl
    | false =>
      rw [hb] at hg
      rw [cond_false, cond_false]
      dsimp only [cond_false] at hg ⊢
      rw [right_eq _ hg.1 hg.2]
      cases r02_RightTermsF (r02_ParseLF (split1 s (⟨#[44]⟩ : ByteArray)) []).2 <;> rfl
def toT (x : XLabel) : XTerm := ⟨x.key, split1 x.value (⟨#[124]⟩ : ByteArray)⟩
theorem lab_terms : ∀ (l : List ByteArray) (v : List XLabel), (r02_ParseLF l (v.map toT)).1 = (labLF l v).1 ∧ ((labLF l v).1 = false → (r02_ParseLF l (v.map toT)).2 = (labLF l v).2.map toT)
  | [], v => ⟨rfl, fun _ => rfl⟩
  | o :: r, v => by
    unfold r02_ParseLF labLF
    cases (!((strings_CutF o (⟨#[61]⟩ : ByteArray)).2.2)) with
    | true => exact ⟨rfl, fun h => by cases h⟩
    | false =>
      rw [cond_false, cond_false]
      have := lab_terms r (v ++ [⟨(strings_CutF o (⟨#[61]⟩ : ByteArray)).1, (strings_CutF o (⟨#[61]⟩ : ByteArray)).2.1⟩])
      rw [List.map_append] at this
      exact this
theorem labels_all : ∀ (l : List XTerm) (v : List XLabel), (∀ t ∈ l, t.values.length = 1) → r02_LabelsLF l v = (false, v ++ l.map fun t => ⟨t.key, t.values.getD 0 default⟩)
  | [], v, _ => by unfold r02_LabelsLF; simp
  | o :: r, v, h => by
    unfold r02_LabelsLF
    have h1 := h o List.mem_cons_self
    rw [h1, labels_all r _ fun t ht => h t (List.mem_cons_of_mem _ ht)]
    simp
theorem labels_not : ∀ (l : List XTerm) (v : List XLabel), (∃ t ∈ l, t.values.length ≠ 1) → (r02_LabelsLF l v).1 = true
  | [], v, h => by obtain ⟨t, ht, _⟩ := h; cases ht
  | o :: r, v, h => by
    unfold r02_LabelsLF
    by_cases h1 : o.values.length = 1
    · rw [h1]
      refine labels_not r _ ?_
      obtain ⟨t, ht, hn⟩ := h
      rcases List.mem_cons.1 ht with rfl | ht
      · exact absurd h1 hn
      · exact ⟨t, ht, hn⟩
    · have : (((o.values).length : Int) == (1 : Int)) = false := by
        rw [beq_eq_false_iff_ne]; omega
      rw [this]; rfl
theorem labLF_good (N : Nat) (hN : N < 4611686018427387904) : ∀ (l : List ByteArray) (v : List XLabel), (∀ x ∈ l, x.size ≤ N) → (∀ q ∈ v, q.key.size ≤ N ∧ q.value.size ≤ N) → (labLF l v).2.length ≤ v.length + l.length ∧ ∀ q ∈ (labLF l v).2, q.key.size ≤ N ∧ q.value.size ≤ N
  | [], v, _, hv => ⟨Nat.le_refl _, hv⟩
  | o :: r, v, hl, hv => by
    have ho := hl o List.mem_cons_self
    have hc := cut_size o (⟨#[61]⟩ : ByteArray) rfl (by omega)
    unfold labLF
    cases (!((strings_CutF o (⟨#[61]⟩ : ByteArray)).2.2)) with
    | true => exact ⟨Nat.zero_le _, fun q hq => by simp at hq; cases hq⟩
    | false =>
      rw [cond_false]
      obtain ⟨h1, h2⟩ := labLF_good N hN r (v ++ [⟨(strings_CutF o (⟨#[61]⟩ : ByteArray)).1, (strings_CutF o (⟨#[61]⟩ : ByteArray)).2.1⟩]) (fun x hx => hl x (List.mem_cons_of_mem _ hx)) (fun q hq => by
        rcases List.mem_append.1 hq with hq | hq
        · exact hv q hq
        · rw [List.mem_singleton.1 hq]
          exact ⟨by show (strings_CutF _ _).1.size ≤ _; omega, by show (strings_CutF _ _).2.1.size ≤ _; omega⟩)
      rw [List.length_append, List.length_cons, List.length_nil] at h1
      rw [List.length_cons]
      exact ⟨by omega, h2⟩
theorem rightL_T {l : List XLabel} (h : RightL l) : l.map toT = l.map (fun x => ⟨x.key, [x.value]⟩) ∧ RightT (l.map toT) := by
  have e : l.map toT = l.map (fun x => ⟨x.key, [x.value]⟩) := by
    apply List.map_congr_left
    intro x hx
    unfold toT
    rw [split_one x.value 124 ((h.1 x hx).2.no rfl) (by have := (h.1 x hx).2.2.2; omega)]
  refine ⟨e, ?_⟩
  rw [e]
  refine ⟨fun t ht => ?_, ?_, by rw [List.length_map]; exact h.2.2⟩
  · obtain ⟨x, hx, rfl⟩ := List.mem_map.1 ht
    exact ⟨(h.1 x hx).1, Nat.le_refl 1, by show 1 ≤ 8; decide, fun v hv => by rw [List.mem_singleton.1 hv]; exact (h.1 x hx).2, List.pairwise_singleton _ _⟩
  · rw [List.map_map]
    exact h.2.1
theorem labels_eq (s : ByteArray) (h : s.size ≤ 4294967280) : topo_LabelsF s = r02_LabelsF s := by
  have hg := topo_Label_6_good s h
  unfold topo_LabelsF r02_LabelsF
  by_cases he : s = (⟨#[]⟩ : ByteArray)
  · subst he
    rfl
  · have e : topo_Label_6F s = cond (labLF (split1 s (⟨#[44]⟩ : ByteArray)) []).1 (false, []) (true, (labLF (split1 s (⟨#[44]⟩ : ByteArray)) []).2) := by
      unfold topo_Label_6F
      rw [decide_eq_false he, Bool.not_false, partsL_eq _ s [] (by rw [partsMu_true]; omega) (by omega)]
    have hlg := labLF_good s.size (by omega) (split1 s (⟨#[44]⟩ : ByteArray)) [] (split1_size s _) (fun q hq => by simp at hq)
    have hrg := r02_Parse_good s h
    obtain ⟨h1, h2⟩ := lab_terms (split1 s (⟨#[44]⟩ : ByteArray)) []
    rw [List.map_nil] at h1 h2
    unfold r02_ParseF
    rw [decide_eq_false he, cond_false, h1]
    rw [e] at hg ⊢
    cases hb : (labLF (split1 s (⟨#[44]⟩ : ByteArray)) []).1 with
    | true => rfl
    | false =>
      rw [hb] at hg
      dsimp only [cond_false] at hg
      have h2' := h2 hb
      rw [h2'] at hrg
      rw [h2']
      generalize (labLF (split1 s (⟨#[44]⟩ : ByteArray)) []).2 = labs at hg hlg hrg ⊢
      simp only [cond_false, Bool.not_true]
      cases hr : topo_rightLabelsF labs with
      | true =>
        have hR := (rightLabels_iff labs hg.1).1 hr
        obtain ⟨ht, hRT⟩ := rightL_T hR
        have hr2 := (r02_RightTerms_iff _ hrg.1 hrg.2).2 hRT
        rw [hr2]
        simp only [cond_false, Bool.not_true, beq_self_eq_true]
        rw [ht, labels_all _ [] (fun t ht => by obtain ⟨x, _, rfl⟩ := List.mem_map.1 ht; rfl), List.map_map]
        have e3 : labs.map ((fun t : XTerm => (⟨t.key, t.values.getD 0 default⟩ : XLabel)) ∘ fun x : XLabel => (⟨x.key, [x.value]⟩ : XTerm)) = labs := by
          conv => rhs; rw [← List.map_id labs]
          apply List.map_congr_left
          intro x _
          rfl
        rw [e3]
        rfl
      | false =>
        rw [Bool.not_false, cond_true]
        cases hr2 : r02_RightTermsF (labs.map toT) with
        | false => rfl
        | true =>
          have hRT := (r02_RightTerms_iff _ hrg.1 hrg.2).1 hr2
          have hn : (r02_LabelsLF (labs.map toT) []).1 = true := by
            refine labels_not _ _ ?_
            refine Classical.byContradiction fun hno => ?_
            have hall : ∀ x ∈ labs, (split1 x.value (⟨#[124]⟩ : ByteArray)).length = 1 := fun x hx => Classical.byContradiction fun hne => hno ⟨toT x, List.mem_map.2 ⟨x, hx, rfl⟩, hne⟩
            have hRL : RightL labs := by
              refine ⟨fun x hx => ?_, ?_, by have := hRT.2.2; rw [List.length_map] at this; exact this⟩
              · have ht := hRT.1 (toT x) (List.mem_map.2 ⟨x, hx, rfl⟩)
                have h1 := (split_len1 x.value 124 (by have := (hlg.2 x hx).2; omega) (hall x hx)).1
                refine ⟨ht.1, ht.2.2.2.1 x.value ?_⟩
                show x.value ∈ split1 x.value (⟨#[124]⟩ : ByteArray)
                rw [h1]
                exact List.mem_singleton.2 rfl
              · have := hRT.2.1
                rw [List.map_map] at this
                exact this
            rw [(rightLabels_iff labs hg.1).2 hRL] at hr
            cases hr
          show _ = cond (!((0 : Int) == 0)) _ (cond (r02_LabelsLF (labs.map toT) []).1 _ _)
          rw [hn]
          rfl
/-! ### The same -/
theorem equal_iff (b : List ByteArray) : ∀ (l : List ByteArray) (i : Nat), l.length = (b.drop i).length → (slices_Equal_string_stringLF b l i = false ↔ l = b.drop i)
  | [], i, h => by
    unfold slices_Equal_string_stringLF
    exact ⟨fun _ => (List.eq_nil_of_length_eq_zero h.symm).symm, fun _ => rfl⟩
  | o :: r, i, h => by
    have hi : i < b.length := by rw [List.length_drop, List.length_cons] at h; omega
    have hd := List.drop_eq_getElem_cons hi
    unfold slices_Equal_string_stringLF
    have hg : b.getD i default = b[i] := by rw [List.getD_eq_getElem?_getD, List.getElem?_eq_getElem hi]; rfl
    rw [hg, hd]
    have ih := equal_iff b r (i + 1) (by rw [hd, List.length_cons, List.length_cons] at h; omega)
    by_cases e : o = b[i]
    · rw [decide_eq_true e, Bool.not_true, cond_false, ih, List.cons.injEq]
      exact ⟨fun h => ⟨e, h⟩, fun h => h.2⟩
    · rw [decide_eq_false e, Bool.not_false, cond_true, List.cons.injEq]
      exact ⟨fun h => (by cases h), fun h => absurd h.1 e⟩
theorem Equal_iff (a b : List ByteArray) : slices_Equal_string_stringF a b = true ↔ a = b := by
  unfold slices_Equal_string_stringF
  by_cases hl : a.length = b.length
  · have e : ((a.length : Int) == (b.length : Int)) = true := by rw [beq_iff_eq]; omega
    have h := equal_iff b a 0 (by simpa using hl)
    rw [List.drop_zero] at h
    rw [e, Bool.not_true, cond_false, ← h]
    cases slices_Equal_string_stringLF b a 0 <;> simp
  · have e : ((a.length : Int) == (b.length : Int)) = false := by rw [beq_eq_false_iff_ne]; omega
    rw [e, Bool.not_false, cond_true]
    exact ⟨fun h => (by cases h), fun h => absurd (congrArg List.length h) hl⟩
theorem same1_iff (x y : XTerm) : topo_SameTerms_1F x.key x.values y.key y.values = true ↔ x = y := by
  unfold topo_SameTerms_1F
  rw [cond_and, Bool.and_eq_true, decide_eq_true_eq, Equal_iff]
  cases x; cases y
  simp
theorem termLF_iff (b : List XTerm) : ∀ (l : List XTerm) (i : Nat), l.length = (b.drop i).length → (topo_TermLF b l i = false ↔ l = b.drop i)
  | [], i, h => by
    unfold topo_TermLF
    exact ⟨fun _ => (List.eq_nil_of_length_eq_zero h.symm).symm, fun _ => rfl⟩
  | o :: r, i, h => by
    have hi : i < b.length := by rw [List.length_drop, List.length_cons] at h; omega
    have hd := List.drop_eq_getElem_cons hi
    unfold topo_TermLF
    have hg : b.getD i default = b[i] := by rw [List.getD_eq_getElem?_getD, List.getElem?_eq_getElem hi]; rfl
    rw [hg, hd]
    have ih := termLF_iff b r (i + 1) (by rw [hd, List.length_cons, List.length_cons] at h; omega)
    have hs := same1_iff o b[i]
    cases he : topo_SameTerms_1F o.key o.values b[i].key b[i].values with
    | true =>
      rw [Bool.not_true, cond_false, ih, List.cons.injEq]
      exact ⟨fun h => ⟨hs.1 he, h⟩, fun h => h.2⟩
    | false =>
      rw [Bool.not_false, cond_true, List.cons.injEq]
      exact ⟨fun h => (by cases h), fun h => (by rw [hs.2 h.1] at he; cases he)⟩
theorem SameTerms_iff (a b : List XTerm) : topo_SameTermsF a b = true ↔ a = b := by
  unfold topo_SameTermsF topo_TermF
  by_cases hl : a.length = b.length
  · have e : ((a.length : Int) == (b.length : Int)) = true := by rw [beq_iff_eq]; omega
    have h := termLF_iff b a 0 (by simpa using hl)
    rw [List.drop_zero] at h
    rw [e, Bool.not_true, cond_false, ← h]
    cases topo_TermLF b a 0 <;> simp
  · have e : ((a.length : Int) == (b.length : Int)) = false := by rw [beq_eq_false_iff_ne]; omega
    rw [e, Bool.not_false, cond_true]
    exact ⟨fun h => (by cases h), fun h => absurd (congrArg List.length h) hl⟩
theorem r02_sameL1_iff (b : List XTerm) (i : Nat) (vs : List ByteArray) (hv : (b.getD i default).values = vs) : ∀ (l : List ByteArray) (j : Nat), l.length = (vs.drop j).length → (r02_SameTermsL1F b i l j = false ↔ l = vs.drop j)
  | [], j, h => by
    unfold r02_SameTermsL1F
    exact ⟨fun _ => (List.eq_nil_of_length_eq_zero h.symm).symm, fun _ => rfl⟩
  | o :: r, j, h => by
    have hi : j < vs.length := by rw [List.length_drop, List.length_cons] at h; omega
    have hd := List.drop_eq_getElem_cons hi
    unfold r02_SameTermsL1F
    have hg : vs.getD j default = vs[j] := by rw [List.getD_eq_getElem?_getD, List.getElem?_eq_getElem hi]; rfl
    rw [hv, hg, hd]
    have ih := r02_sameL1_iff b i vs hv r (j + 1) (by rw [hd, List.length_cons, List.length_cons] at h; omega)
    by_cases e : o = vs[j]
    · rw [decide_eq_true e, Bool.not_true, cond_false, ih, List.cons.injEq]
      exact ⟨fun h => ⟨e, h⟩, fun h => h.2⟩
    · rw [decide_eq_false e, Bool.not_false, cond_true, List.cons.injEq]
      exact ⟨fun h => (by cases h), fun h => absurd h.1 e⟩
theorem r02_termLF_iff (b : List XTerm) : ∀ (l : List XTerm) (i : Nat), l.length = (b.drop i).length → (r02_SameTermsLF b l i = false ↔ l = b.drop i)
  | [], i, h => by
    unfold r02_SameTermsLF
    exact ⟨fun _ => (List.eq_nil_of_length_eq_zero h.symm).symm, fun _ => rfl⟩
  | o :: r, i, h => by
    have hi : i < b.length := by rw [List.length_drop, List.length_cons] at h; omega
    have hd := List.drop_eq_getElem_cons hi
    unfold r02_SameTermsLF
    have hg : b.getD i default = b[i] := by rw [List.getD_eq_getElem?_getD, List.getElem?_eq_getElem hi]; rfl
    have hv : (b.getD i default).values = b[i].values := by rw [hg]
    have ih := r02_termLF_iff b r (i + 1) (by rw [hd, List.length_cons, List.length_cons] at h; omega)
    rw [hg, hd, List.cons.injEq]
    by_cases ek : o.key = b[i].key
    · rw [decide_eq_true ek, Bool.not_true]
      by_cases el : o.values.length = b[i].values.length
      · have e : (((o.values).length : Int) == ((b[i].values).length : Int)) = true := by rw [beq_iff_eq]; omega
        rw [e]
        have h1 := r02_sameL1_iff b i _ hv o.values 0 (by simpa using el)
        rw [List.drop_zero] at h1
        show cond (r02_SameTermsL1F b i o.values 0) true (r02_SameTermsLF b r (i + 1)) = false ↔ _
        cases hq : r02_SameTermsL1F b i o.values 0 with
        | true =>
          rw [cond_true]
          refine ⟨fun h => (by cases h), fun h => ?_⟩
          rw [h1.2 (by rw [h.1])] at hq
          cases hq
        | false =>
          rw [cond_false, ih]
          refine ⟨fun h => ⟨?_, h⟩, fun h => h.2⟩
          have := h1.1 hq
          cases o
          cases hbi : b[i]
          rw [hbi] at ek this
          simp_all
      · have e : (((o.values).length : Int) == ((b[i].values).length : Int)) = false := by rw [beq_eq_false_iff_ne]; omega
        rw [e]
        exact ⟨fun h => (by cases h), fun h => absurd (by rw [h.1]) el⟩
    · rw [decide_eq_false ek]
      exact ⟨fun h => (by cases h), fun h => absurd (by rw [h.1]) ek⟩
theorem r02_SameTerms_iff (a b : List XTerm) : r02_SameTermsF a b = true ↔ a = b := by
  unfold r02_SameTermsF
  by_cases hl : a.length = b.length
  · have e : ((a.length : Int) == (b.length : Int)) = true := by rw [beq_iff_eq]; omega
    have h := r02_termLF_iff b a 0 (by simpa using hl)
    rw [List.drop_zero] at h
    rw [e, Bool.not_true, cond_false, ← h]
    cases r02_SameTermsLF b a 0 <;> simp
  · have e : ((a.length : Int) == (b.length : Int)) = false := by rw [beq_eq_false_iff_ne]; omega
    rw [e, Bool.not_false, cond_true]
    exact ⟨fun h => (by cases h), fun h => absurd (congrArg List.length h) hl⟩
theorem labelLF_iff (b : List XLabel) : ∀ (l : List XLabel) (i : Nat), l.length = (b.drop i).length → (topo_Label_3LF b l i = false ↔ l = b.drop i)
  | [], i, h => by
    unfold topo_Label_3LF
    exact ⟨fun _ => (List.eq_nil_of_length_eq_zero h.symm).symm, fun _ => rfl⟩
  | o :: r, i, h => by
    have hi : i < b.length := by rw [List.length_drop, List.length_cons] at h; omega
    have hd := List.drop_eq_getElem_cons hi
    unfold topo_Label_3LF
    have hg : b.getD i default = b[i] := by rw [List.getD_eq_getElem?_getD, List.getElem?_eq_getElem hi]; rfl
    rw [hg, hd]
    have ih := labelLF_iff b r (i + 1) (by rw [hd, List.length_cons, List.length_cons] at h; omega)
    have hs : ((decide ((o.key) = (b[i].key))) && (decide ((o.value) = (b[i].value)))) = true ↔ o = b[i] := by
      rw [Bool.and_eq_true, decide_eq_true_eq, decide_eq_true_eq]
      cases o; cases b[i]; simp
    cases he : ((decide ((o.key) = (b[i].key))) && (decide ((o.value) = (b[i].value)))) with
    | true =>
      rw [Bool.not_true, cond_false, ih, List.cons.injEq]
      exact ⟨fun h => ⟨hs.1 he, h⟩, fun h => h.2⟩
    | false =>
      rw [Bool.not_false, cond_true, List.cons.injEq]
      exact ⟨fun h => (by cases h), fun h => (by rw [hs.2 h.1] at he; cases he)⟩
theorem SameLabels_iff (a b : List XLabel) : topo_SameLabelsF a b = true ↔ a = b := by
  unfold topo_SameLabelsF topo_Label_3F
  by_cases hl : a.length = b.length
  · have e : ((a.length : Int) == (b.length : Int)) = true := by rw [beq_iff_eq]; omega
    have h := labelLF_iff b a 0 (by simpa using hl)
    rw [List.drop_zero] at h
    rw [e, Bool.not_true, cond_false, ← h]
    cases topo_Label_3LF b a 0 <;> simp
  · have e : ((a.length : Int) == (b.length : Int)) = false := by rw [beq_eq_false_iff_ne]; omega
    rw [e, Bool.not_false, cond_true]
    exact ⟨fun h => (by cases h), fun h => absurd (congrArg List.length h) hl⟩
theorem r02_SameLabels_eq (a b : List XLabel) : r02_SameLabelsF a b = topo_SameLabelsF a b := by
  have : ∀ (l : List XLabel) (i : Nat), r02_SameLabelsLF b l i = topo_Label_3LF b l i := by
    intro l
    induction l with
    | nil => intro i; rfl
    | cons o r ih => intro i; unfold r02_SameLabelsLF topo_Label_3LF; rw [ih]
  unfold r02_SameLabelsF topo_SameLabelsF topo_Label_3F
  rw [this]
theorem same_eq (a b : List XTerm) : topo_SameTermsF a b = r02_SameTermsF a b := by rw [Bool.eq_iff_iff, SameTerms_iff, r02_SameTerms_iff]
theorem same_comm (a b : List XTerm) : topo_SameTermsF a b = topo_SameTermsF b a := by rw [Bool.eq_iff_iff, SameTerms_iff, SameTerms_iff]; exact eq_comm
theorem sameL_comm (a b : List XLabel) : topo_SameLabelsF a b = topo_SameLabelsF b a := by rw [Bool.eq_iff_iff, SameLabels_iff, SameLabels_iff]; exact eq_comm
/-! ### What must be, whatever is asked -/
theorem live_true : w02_liveF = true := by
  unfold w02_liveF
  rw [parse_eq _ (by decide), labels_eq _ (by decide), word_eq]
  kernel_rfl
theorem topoParses (s : ByteArray) (h : s.size ≤ 1048576) : w02_TopoParsesF s = true := by
  unfold w02_TopoParsesF
  rw [live_true, refTerms_eq, refLabels_eq, parse_eq s (by omega), labels_eq s (by omega), word_eq, r02_SameLabels_eq, (r02_SameTerms_iff _ _).2 rfl, (SameLabels_iff _ _).2 rfl]
  simp
end Go.Proofs.YtbjlmmeabonbpaaDoor
