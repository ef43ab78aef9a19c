/- Topo: plain laws: matching, sameness, printing, and back. -/
import Derived.Test.YtbjlmmeabonbpaaDoorDPL2
import Derived.Test.YtbjlmmeabonbpaaDoorDLawB
import Derived.Test.YtbjlmmeabonbpaaDoorDLawC
import Derived.Test.YtbjlmmeabonbpaaDoorDLawD
import Derived.Test.YtbjlmmeabonbpaaDoorDLawE
import Derived.Test.YtbjlmmeabonbpaaDoorDLawF
set_option linter.unusedVariables false
set_option linter.unusedSimpArgs false
set_option maxRecDepth 100000
namespace Go.Proofs.YtbjlmmeabonbpaaDoor
open Go Go.Eng
/-! ### Matching -/
theorem indexLF_iff (s : ByteArray) : ∀ (l : List ByteArray) (i : Nat), ((slices_Index_string_stringLF s l i).1 = true ↔ s ∈ l) ∧ ((slices_Index_string_stringLF s l i).1 = true → 0 ≤ (slices_Index_string_stringLF s l i).2)
  | [], i => by unfold slices_Index_string_stringLF; simp
  | o :: r, i => by
    unfold slices_Index_string_stringLF
    by_cases h : s = o
    · rw [decide_eq_true h]; subst h; exact ⟨⟨fun _ => List.mem_cons_self, fun _ => rfl⟩, fun _ => by show (0 : Int) ≤ (i : Int); omega⟩
    · rw [decide_eq_false h, cond_false]
      obtain ⟨h1, h2⟩ := indexLF_iff s r (i + 1)
      refine ⟨h1.trans ⟨fun hm => List.mem_cons_of_mem _ hm, fun hm => ?_⟩, h2⟩
      rcases List.mem_cons.1 hm with e | hm
      · exact absurd e h
      · exact hm
theorem contains_iff (s : ByteArray) (l : List ByteArray) : slices_Contains_string_stringF l s = true ↔ s ∈ l := by
  unfold slices_Contains_string_stringF slices_Index_string_stringF
  obtain ⟨h1, h2⟩ := indexLF_iff s l 0
  cases h : (slices_Index_string_stringLF s l 0).1 with
  | true =>
    rw [h] at h1 h2
    rw [cond_true, decide_eq_true (h2 rfl)]
    exact h1
  | false =>
    rw [h] at h1
    rw [cond_false]
    exact h1
theorem has_iff (s : ByteArray) (l : List ByteArray) : r02_hasF l s = true ↔ s ∈ l := by
  have h : ∀ l : List ByteArray, r02_hasLF s l = true ↔ s ∈ l := by
    intro l
    induction l with
    | nil => unfold r02_hasLF; simp
    | cons o r ih =>
      unfold r02_hasLF
      by_cases e : o = s
      · rw [decide_eq_true e]; simp [e]
      · rw [decide_eq_false e, cond_false, ih]
        exact ⟨List.mem_cons_of_mem _, fun h => (List.mem_cons.1 h).resolve_left (fun q => e q.symm)⟩
  unfold r02_hasF
  rw [← h l]
  cases r02_hasLF s l <;> rfl
theorem labIdx_iff (k : ByteArray) (vs : List ByteArray) : ∀ (l : List XLabel) (i : Nat), ((topo_Label_2LF k vs l i).1 = true ↔ ∃ x ∈ l, x.key = k ∧ x.value ∈ vs) ∧ ((topo_Label_2LF k vs l i).1 = true → 0 ≤ (topo_Label_2LF k vs l i).2)
  | [], i => by unfold topo_Label_2LF; simp
  | o :: r, i => by
    unfold topo_Label_2LF
    have hm : topo_Match_1F o k vs = true ↔ o.key = k ∧ o.value ∈ vs := by
      unfold topo_Match_1F
      rw [cond_and, Bool.and_eq_true, decide_eq_true_eq, contains_iff]
    cases h : topo_Match_1F o k vs with
    | true => exact ⟨⟨fun _ => ⟨o, List.mem_cons_self, hm.1 h⟩, fun _ => rfl⟩, fun _ => by show (0 : Int) ≤ (i : Int); omega⟩
    | false =>
      rw [cond_false]
      obtain ⟨h1, h2⟩ := labIdx_iff k vs r (i + 1)
      refine ⟨h1.trans ⟨fun ⟨x, hx, e⟩ => ⟨x, List.mem_cons_of_mem _ hx, e⟩, fun ⟨x, hx, e⟩ => ?_⟩, h2⟩
      rcases List.mem_cons.1 hx with rfl | hx
      · rw [hm.2 e] at h; cases h
      · exact ⟨x, hx, e⟩
theorem lab_iff (l : List XLabel) (k : ByteArray) (vs : List ByteArray) : topo_LabelF l k vs = true ↔ ∃ x ∈ l, x.key = k ∧ x.value ∈ vs := by
  unfold topo_LabelF topo_Label_2F
  obtain ⟨h1, h2⟩ := labIdx_iff k vs l 0
  cases h : (topo_Label_2LF k vs l 0).1 with
  | true =>
    rw [h] at h1 h2
    rw [cond_true, decide_eq_true (h2 rfl)]
    exact h1
  | false =>
    rw [h] at h1
    rw [cond_false]
    exact h1
def Takes (t : XTerm) (l : List XLabel) : Prop := ∃ x ∈ l, x.key = t.key ∧ x.value ∈ t.values
theorem match_iff (l : List XTerm) (m : List XLabel) : topo_MatchF l m = true ↔ ∀ t ∈ l, Takes t m := by
  have h : ∀ l : List XTerm, topo_MatchLF m l = false ↔ ∀ t ∈ l, Takes t m := by
    intro l
    induction l with
    | nil => unfold topo_MatchLF; simp
    | cons o r ih =>
      unfold topo_MatchLF
      have hl := lab_iff m o.key o.values
      cases he : topo_LabelF m o.key o.values with
      | true =>
        rw [Bool.not_true, cond_false, ih]
        exact ⟨fun h t ht => (List.mem_cons.1 ht).elim (fun e => e ▸ hl.1 he) (h t), fun h t ht => h t (List.mem_cons_of_mem _ ht)⟩
      | false =>
        rw [Bool.not_false, cond_true]
        exact ⟨fun h => (by cases h), fun h => (by rw [hl.2 (h o List.mem_cons_self)] at he; cases he)⟩
  unfold topo_MatchF
  rw [← h l]
  cases topo_MatchLF m l <;> simp
theorem r02_matchL1_iff (a : List XTerm) (i : Nat) (t : XTerm) (ht : a.getD i default = t) : ∀ (m : List XLabel) (b : Bool), r02_MatchL1F a i m b = true ↔ b = true ∨ Takes t m
  | [], b => by unfold r02_MatchL1F Takes; simp
  | o :: r, b => by
    unfold r02_MatchL1F
    rw [r02_matchL1_iff a i t ht r, ht]
    unfold Takes
    cases b with
    | true => simp
    | false =>
      rw [cond_false, cond_and, Bool.and_eq_true, decide_eq_true_eq, has_iff]
      constructor
      · rintro (h | ⟨x, hx, e⟩)
        · exact .inr ⟨o, List.mem_cons_self, h⟩
        · exact .inr ⟨x, List.mem_cons_of_mem _ hx, e⟩
      · rintro (h | ⟨x, hx, e⟩)
        · cases h
        · rcases List.mem_cons.1 hx with rfl | hx
          · exact .inl e
          · exact .inr ⟨x, hx, e⟩
theorem r02_match_iff (l : List XTerm) (m : List XLabel) : r02_MatchF l m = true ↔ ∀ t ∈ l, Takes t m := by
  have h : ∀ (r : List XTerm) (i : Nat), l.drop i = r → (r02_MatchLF l m r i = false ↔ ∀ t ∈ r, Takes t m) := by
    intro r
    induction r with
    | nil => intro i _; unfold r02_MatchLF; simp
    | cons o r ih =>
      intro i hd
      have hi : i < l.length := by
        rcases Nat.lt_or_ge i l.length with q | q
        · exact q
        · rw [List.drop_eq_nil_of_le q] at hd; cases hd
      rw [List.drop_eq_getElem_cons hi] at hd
      obtain ⟨ho, hd2⟩ := List.cons.inj hd
      have hg : l.getD i default = o := by rw [List.getD_eq_getElem?_getD, List.getElem?_eq_getElem hi]; exact ho
      unfold r02_MatchLF
      have hl := r02_matchL1_iff l i o hg m false
      cases he : r02_MatchL1F l i m false with
      | true =>
        rw [Bool.not_true, cond_false, ih (i + 1) hd2]
        have h1 := (hl.1 he).resolve_left (by simp)
        exact ⟨fun h t ht => (List.mem_cons.1 ht).elim (fun e => e ▸ h1) (h t), fun h t ht => h t (List.mem_cons_of_mem _ ht)⟩
      | false =>
        rw [Bool.not_false, cond_true]
        exact ⟨fun h => (by cases h), fun h => (by rw [hl.2 (.inr (h o List.mem_cons_self))] at he; cases he)⟩
  unfold r02_MatchF
  rw [← h l 0 rfl]
  cases r02_MatchLF l m l 0 <;> simp
theorem match_eq (l : List XTerm) (m : List XLabel) : topo_MatchF l m = r02_MatchF l m := by rw [Bool.eq_iff_iff, match_iff, r02_match_iff]
theorem topoMatches (l : List XTerm) (m : List XLabel) : w02_TopoMatchesF l m = true := by
  unfold w02_TopoMatchesF
  rw [live_true, refTerms_eq, refLabels_eq, match_eq l m, (match_iff [] m).2 (fun t ht => by simp at ht)]
  simp
theorem topoSame (a b : List XTerm) (c d : List XLabel) : w02_TopoSameF a b c d = true := by
  unfold w02_TopoSameF
  rw [live_true, refTerms_eq, refTerms_eq, refLabels_eq, refLabels_eq, r02_SameLabels_eq, same_eq a b, same_comm b a, same_eq a b, sameL_comm d c, (SameTerms_iff a a).2 rfl]
  simp
/-! ### Printing -/
theorem bnil (x : ByteArray) : (⟨#[]⟩ : ByteArray) ++ x = x := by
  apply ext_list
  rw [app_list]
  rfl
theorem print_tail (f : XTerm → ByteArray) : ∀ (l : List XTerm) (v : ByteArray) (i : Nat), 0 < i → f = (fun t => ((t.key ++ (⟨#[61]⟩ : ByteArray)) ++ (joinB (t.values) (⟨#[124]⟩ : ByteArray)))) → ∀ x : ByteArray, r02_PrintLF l (v ++ x) i = v ++ joinB (x :: l.map f) (⟨#[44]⟩ : ByteArray)
  | [], v, i, _, _, x => by unfold r02_PrintLF; rw [List.map_nil, joinB_one]
  | o :: r, v, i, hi, hf, x => by
    unfold r02_PrintLF
    rw [decide_eq_true (show (i : Int) > 0 by omega), cond_true, List.map_cons, joinB_cons]
    have e : (v ++ x) ++ (⟨#[44]⟩ : ByteArray) ++ (o.key ++ (⟨#[61]⟩ : ByteArray) ++ joinB o.values (⟨#[124]⟩ : ByteArray)) = (v ++ x ++ (⟨#[44]⟩ : ByteArray)) ++ f o := by rw [hf]
    rw [e, print_tail f r (v ++ x ++ (⟨#[44]⟩ : ByteArray)) (i + 1) (by omega) hf (f o)]
    apply ext_list
    simp only [app_list, List.append_assoc]
theorem print_join (l : List XTerm) : r02_PrintLF l (⟨#[]⟩ : ByteArray) 0 = joinB (topo_Term_5F l) (⟨#[44]⟩ : ByteArray) := by
  rw [printT_eq]
  cases l with
  | nil => rfl
  | cons o r =>
    unfold r02_PrintLF
    rw [decide_eq_false (show ¬ ((0 : Nat) : Int) > 0 by omega), cond_false]
    rw [print_tail (fun t => ((t.key ++ (⟨#[61]⟩ : ByteArray)) ++ (joinB (t.values) (⟨#[124]⟩ : ByteArray)))) r _ (0 + 1) (by omega) rfl, bnil]
    rfl
theorem printL_tail (f : XLabel → ByteArray) : ∀ (l : List XLabel) (v : ByteArray) (i : Nat), 0 < i → f = (fun t => ((t.key ++ (⟨#[61]⟩ : ByteArray)) ++ (t.value))) → ∀ x : ByteArray, r02_PrintLabelsLF l (v ++ x) i = v ++ joinB (x :: l.map f) (⟨#[44]⟩ : ByteArray)
  | [], v, i, _, _, x => by unfold r02_PrintLabelsLF; rw [List.map_nil, joinB_one]
  | o :: r, v, i, hi, hf, x => by
    unfold r02_PrintLabelsLF
    rw [decide_eq_true (show (i : Int) > 0 by omega), cond_true, List.map_cons, joinB_cons]
    have e : (v ++ x) ++ (⟨#[44]⟩ : ByteArray) ++ (o.key ++ (⟨#[61]⟩ : ByteArray) ++ o.value) = (v ++ x ++ (⟨#[44]⟩ : ByteArray)) ++ f o := by rw [hf]
    rw [e, printL_tail f r (v ++ x ++ (⟨#[44]⟩ : ByteArray)) (i + 1) (by omega) hf (f o)]
    apply ext_list
    simp only [app_list, List.append_assoc]
theorem printL_join (l : List XLabel) : r02_PrintLabelsLF l (⟨#[]⟩ : ByteArray) 0 = joinB (topo_Label_7F l) (⟨#[44]⟩ : ByteArray) := by
  rw [printL_eq]
  cases l with
  | nil => rfl
  | cons o r =>
    unfold r02_PrintLabelsLF
    rw [decide_eq_false (show ¬ ((0 : Nat) : Int) > 0 by omega), cond_false]
    rw [printL_tail (fun t => ((t.key ++ (⟨#[61]⟩ : ByteArray)) ++ (t.value))) r _ (0 + 1) (by omega) rfl, bnil]
    rfl
theorem print_eq (l : List XTerm) (hl : l.length ≤ 4294967296) (hf : ∀ t ∈ l, t.Fine) : topo_PrintF l = r02_PrintF l := by
  unfold topo_PrintF r02_PrintF
  rw [right_eq l hl hf, print_join]
theorem printLabels_eq (l : List XLabel) (hl : l.length ≤ 4294967296) : topo_PrintLabelsF l = r02_PrintLabelsF l := by
  unfold topo_PrintLabelsF r02_PrintLabelsF
  rw [rightLabels_eq l hl, printL_join]
theorem topoPrints (l : List XTerm) (m : List XLabel) (hf : ∀ t ∈ l, t.Fine) : w02_TopoPrintsF l m = true := by
  unfold w02_TopoPrintsF
  rw [live_true, refTerms_eq, refLabels_eq]
  cases h : cond (!(w02_smallF l)) true (decide ((m.length : Int) > (30 : Int))) with
  | true => rfl
  | false =>
    have hs := small_two h
    rw [print_eq l (by omega) hf, printLabels_eq m (by omega)]
    simp
/-! ### And back -/
theorem cut_word {k : ByteArray} (hk : Wd k) (r : ByteArray) (hs : (k ++ (⟨#[61]⟩ : ByteArray) ++ r).size < 4611686018427387904) : strings_CutF (k ++ (⟨#[61]⟩ : ByteArray) ++ r) (⟨#[61]⟩ : ByteArray) = (k, r, true) := cut_at k r 61 (hk.no rfl) hs
theorem values_no {c : UInt8} (hc : okw c = false) (hc2 : c ≠ 124) : ∀ (l : List ByteArray), (∀ v ∈ l, Wd v) → c ∉ (joinB l (⟨#[124]⟩ : ByteArray)).data.toList
  | [], _ => by rw [joinB_nil]; simp
  | [x], h => by rw [joinB_one]; exact (h x List.mem_cons_self).no hc
  | x :: y :: r, h => by
    rw [joinB_cons, app_list, app_list]
    intro hm
    rcases List.mem_append.1 hm with hm | hm
    · rcases List.mem_append.1 hm with hm | hm
      · exact (h x List.mem_cons_self).no hc hm
      · exact hc2 (by simpa using hm)
    · exact values_no hc hc2 (y :: r) (fun v hv => h v (List.mem_cons_of_mem _ hv)) hm
theorem piece_no {t : XTerm} (h : RTm t) : (44 : UInt8) ∉ (topo_Print_1F t.key t.values).data.toList := by
  unfold topo_Print_1F
  rw [app_list, app_list]
  intro hm
  rcases List.mem_append.1 hm with hm | hm
  · rcases List.mem_append.1 hm with hm | hm
    · exact h.1.no rfl hm
    · simp at hm
  · exact values_no rfl (by decide) t.values h.2.2.2.1 hm
theorem parse_pieces : ∀ (l : List XTerm) (v : List XTerm), (∀ t ∈ l, RTm t) → r02_ParseLF (l.map fun t => topo_Print_1F t.key t.values) v = (false, v ++ l)
  | [], v, _ => by unfold r02_ParseLF; simp
  | t :: r, v, h => by
    have ht := h t List.mem_cons_self
    have hsz : (topo_Print_1F t.key t.values).size < 4611686018427387904 := by
      have h2 := joinB_size (⟨#[124]⟩ : ByteArray) rfl 24 t.values (fun q hq => (ht.2.2.2.1 q hq).2.2)
      have h3 := ht.1.2.2
      have h4 := ht.2.2.1
      unfold topo_Print_1F
      simp only [ByteArray.size_append, size_mk, List.size_toArray, List.length_cons, List.length_nil]
      omega
    have hc : strings_CutF (topo_Print_1F t.key t.values) (⟨#[61]⟩ : ByteArray) = (t.key, joinB t.values (⟨#[124]⟩ : ByteArray), true) := cut_word ht.1 _ hsz
    have hj : (joinB t.values (⟨#[124]⟩ : ByteArray)).size < 4611686018427387904 := by
      have h2 := joinB_size (⟨#[124]⟩ : ByteArray) rfl 24 t.values (fun q hq => (ht.2.2.2.1 q hq).2.2)
      have h4 := ht.2.2.1
      omega
    have hv : split1 (joinB t.values (⟨#[124]⟩ : ByteArray)) (⟨#[124]⟩ : ByteArray) = t.values := split_join 124 t.values (fun e => by have := ht.2.1; rw [e] at this; exact absurd this (by decide)) (fun x hx => (ht.2.2.2.1 x hx).no rfl) hj
    rw [List.map_cons]
    unfold r02_ParseLF
    rw [hc]
    dsimp only
    rw [hv, Bool.not_true, cond_false, parse_pieces r _ fun t ht => h t (List.mem_cons_of_mem _ ht)]
    simp
theorem parse_print (l : List XTerm) (h : RightT l) (hf : ∀ t ∈ l, t.Fine) : topo_ParseF (joinB (topo_Term_5F l) (⟨#[44]⟩ : ByteArray)) = (0, l) := by
  have hsz := print_size l h
  rw [parse_eq _ (by omega), printT_eq] at *
  cases l with
  | nil => rfl
  | cons t r =>
    have hne : ¬ joinB ((t :: r).map fun t => topo_Print_1F t.key t.values) (⟨#[44]⟩ : ByteArray) = (⟨#[]⟩ : ByteArray) := by
      intro e
      have hs := split_join 44 ((t :: r).map fun t => topo_Print_1F t.key t.values) (by simp) (fun x hx => by obtain ⟨q, hq, rfl⟩ := List.mem_map.1 hx; exact piece_no (h.1 q hq)) (by omega)
      rw [e] at hs
      have hk : split1 (⟨#[]⟩ : ByteArray) (⟨#[44]⟩ : ByteArray) = [⟨#[]⟩] := by kernel_rfl
      rw [hk] at hs
      rw [List.map_cons] at hs
      obtain ⟨h1, _⟩ := List.cons.inj hs
      have h2 : (topo_Print_1F t.key t.values).size = 0 := by rw [← h1]; rfl
      unfold topo_Print_1F at h2
      simp only [ByteArray.size_append, size_mk, List.size_toArray, List.length_cons, List.length_nil] at h2
      omega
    unfold r02_ParseF
    rw [decide_eq_false hne, cond_false, split_join 44 _ (by simp) (fun x hx => by obtain ⟨q, hq, rfl⟩ := List.mem_map.1 hx; exact piece_no (h.1 q hq)) (by omega), parse_pieces (t :: r) [] h.1]
    dsimp only
    rw [cond_false, List.nil_append, (r02_RightTerms_iff _ (by have := h.2.2; omega) hf).2 h]
    rfl
theorem pieces_back (N : Nat) (hN : N < 4611686018427387904) : ∀ (l : List ByteArray) (v : List XTerm), (∀ x ∈ l, x.size ≤ N) → (r02_ParseLF l v).1 = false → (r02_ParseLF l v).2.map (fun t => topo_Print_1F t.key t.values) = v.map (fun t => topo_Print_1F t.key t.values) ++ l
  | [], v, _, _ => by unfold r02_ParseLF; simp
  | o :: r, v, hl, h => by
    have ho := hl o List.mem_cons_self
    unfold r02_ParseLF at h ⊢
    cases hb : (strings_CutF o (⟨#[61]⟩ : ByteArray)).2.2 with
    | false => rw [hb] at h; cases h
    | true =>
      rw [hb, Bool.not_true, cond_false] at h
      rw [Bool.not_true, cond_false, pieces_back N hN r _ (fun x hx => hl x (List.mem_cons_of_mem _ hx)) h, List.map_append]
      have hc := (cut_size o (⟨#[61]⟩ : ByteArray) rfl (by omega)).2.1
      have e : topo_Print_1F (strings_CutF o (⟨#[61]⟩ : ByteArray)).1 (split1 (strings_CutF o (⟨#[61]⟩ : ByteArray)).2.1 (⟨#[124]⟩ : ByteArray)) = o := by
        unfold topo_Print_1F
        rw [join_split 124 _ _ rfl (by omega)]
        exact (cut_back o 61 (by omega) hb).1
      simp only [List.map_cons, List.map_nil, e, List.append_assoc, List.cons_append, List.nil_append]
theorem print_parse (s : ByteArray) (hs : s.size ≤ 4294967280) (h : (topo_ParseF s).1 = 0) : topo_PrintF (topo_ParseF s).2 = (s, 0) := by
  have hg := r02_Parse_good s hs
  rw [parse_eq s hs] at h ⊢
  unfold r02_ParseF at h ⊢
  by_cases he : s = (⟨#[]⟩ : ByteArray)
  · subst he
    rfl
  · rw [decide_eq_false he, cond_false] at h ⊢
    cases hb : (r02_ParseLF (split1 s (⟨#[44]⟩ : ByteArray)) []).1 with
    | true => rw [hb] at h; exact absurd h (by show ¬ (2 : Int) = 0; decide)
    | false =>
      rw [hb, cond_false] at h
      rw [cond_false]
      cases hr : r02_RightTermsF (r02_ParseLF (split1 s (⟨#[44]⟩ : ByteArray)) []).2 with
      | false => rw [hr] at h; exact absurd h (by show ¬ (2 : Int) = 0; decide)
      | true =>
        rw [Bool.not_true, cond_false]
        show topo_PrintF (r02_ParseLF (split1 s (⟨#[44]⟩ : ByteArray)) []).2 = _
        unfold topo_PrintF
        rw [right_eq _ hg.1 hg.2, hr, Bool.not_true, cond_false, printT_eq, pieces_back s.size (by omega) _ [] (split1_size s _) hb, List.map_nil, List.nil_append, join_split 44 _ s rfl (by omega)]
theorem parse_bad (s : ByteArray) (hs : s.size ≤ 4294967280) (h : ((topo_ParseF s).1 == (0 : Int)) = false) : ((topo_ParseF s).1 == (2 : Int)) = true ∧ (topo_ParseF s).2 = [] := by
  unfold topo_ParseF at h ⊢
  generalize cond (!((topo_Term_4F s).1)) true (!(topo_rightF ((topo_Term_4F s).2))) = b at h ⊢
  cases b
  · cases h
  · exact ⟨rfl, rfl⟩
theorem back_text (s : ByteArray) (hs : s.size ≤ 4294967280) : cond (!(((topo_ParseF s).1) == (0 : Int))) (cond (cond w02_liveF (((topo_ParseF s).1) == (2 : Int)) false) ((((topo_ParseF s).2).length : Int) == (0 : Int)) false) (cond (cond w02_liveF (((topo_PrintF ((topo_ParseF s).2)).2) == (0 : Int)) false) (decide (((topo_PrintF ((topo_ParseF s).2)).1) = s)) false) = true := by
  rw [live_true]
  cases h : ((topo_ParseF s).1) == (0 : Int) with
  | false =>
    obtain ⟨h1, h2⟩ := parse_bad s hs h
    rw [h1, h2]
    rfl
  | true =>
    rw [print_parse s hs (by simpa using h)]
    simp
theorem topoBack (l : List XTerm) (s : ByteArray) (hf : ∀ t ∈ l, t.Fine) (hs : s.size ≤ 1048576) : w02_TopoBackF l s = true := by
  unfold w02_TopoBackF
  have hb := back_text s (by omega)
  cases h : (!(w02_smallF l)) with
  | true => exact live_true
  | false =>
    have hl := small_one h
    rw [cond_false]
    cases hp : ((topo_PrintF l).2) == (0 : Int) with
    | false => exact hb
    | true =>
      have hr : topo_rightF l = true := by
        unfold topo_PrintF at hp
        cases hr : topo_rightF l with
        | true => rfl
        | false => rw [hr] at hp; cases hp
      have hR := (right_iff l (by omega) hf).1 hr
      have e : topo_PrintF l = (joinB (topo_Term_5F l) (⟨#[44]⟩ : ByteArray), 0) := by unfold topo_PrintF; rw [hr]; rfl
      rw [cond_true, e]
      dsimp only
      rw [parse_print l hR hf]
      dsimp only
      rw [(SameTerms_iff l l).2 rfl]
      exact hb
/-! ### Labels, and back -/
theorem pieceL_no {x : XLabel} (h : RLb x) : (44 : UInt8) ∉ (topo_PrintLabels_1F x).data.toList := by
  unfold topo_PrintLabels_1F
  rw [app_list, app_list]
  intro hm
  rcases List.mem_append.1 hm with hm | hm
  · rcases List.mem_append.1 hm with hm | hm
    · exact h.1.no rfl hm
    · simp at hm
  · exact h.2.no rfl hm
theorem print_as (l : List XLabel) : topo_Label_7F l = topo_Term_5F (l.map fun x => ⟨x.key, [x.value]⟩) := by
  rw [printL_eq, printT_eq, List.map_map]
  apply List.map_congr_left
  intro x _
  show _ = topo_Print_1F x.key [x.value]
  unfold topo_PrintLabels_1F topo_Print_1F
  rw [joinB_one]
theorem topoLabels (l : List XLabel) (hf : ∀ x ∈ l, x.Fine) : w02_TopoLabelsF l = true := by
  unfold w02_TopoLabelsF
  rw [live_true]
  cases h : decide ((l.length : Int) > (30 : Int)) with
  | true => rfl
  | false =>
    have hl := small_lab h
    rw [cond_false]
    cases hr : topo_rightLabelsF l with
    | false =>
      have e : topo_PrintLabelsF l = (⟨#[]⟩, 2) := by unfold topo_PrintLabelsF; rw [hr]; rfl
      rw [e]
      rfl
    | true =>
      have hR := (rightLabels_iff l (by omega)).1 hr
      obtain ⟨ht, hRT⟩ := rightL_T hR
      rw [ht] at hRT
      have e : topo_PrintLabelsF l = (joinB (topo_Label_7F l) (⟨#[44]⟩ : ByteArray), 0) := by unfold topo_PrintLabelsF; rw [hr]; rfl
      have hsz := printL_size l hR
      have hfT : ∀ t ∈ l.map (fun x : XLabel => (⟨x.key, [x.value]⟩ : XTerm)), t.Fine := fun t h => by
        obtain ⟨x, hx, rfl⟩ := List.mem_map.1 h
        exact ⟨(hf x hx).1, by show 1 < _; decide, fun v hv => by rw [List.mem_singleton.1 hv]; exact (hf x hx).2⟩
      have hP := parse_print _ hRT hfT
      rw [← print_as] at hP
      have hL : topo_LabelsF (joinB (topo_Label_7F l) (⟨#[44]⟩ : ByteArray)) = (0, l) := by
        rw [labels_eq _ (by omega)]
        unfold r02_LabelsF
        rw [← parse_eq _ (by omega), hP]
        dsimp only
        rw [beq_self_eq_true, Bool.not_true, cond_false, labels_all _ [] (fun t ht => by obtain ⟨x, _, rfl⟩ := List.mem_map.1 ht; rfl), List.map_map]
        have e3 : l.map ((fun t : XTerm => (⟨t.key, t.values.getD 0 default⟩ : XLabel)) ∘ fun x : XLabel => (⟨x.key, [x.value]⟩ : XTerm)) = l := by
          conv => rhs; rw [← List.map_id l]
          apply List.map_congr_left
          intro x _
          rfl
        rw [e3]
        rfl
      have hM : topo_MatchF (l.map fun x => ⟨x.key, [x.value]⟩) l = true := by
        rw [match_iff]
        intro t h
        obtain ⟨x, hx, rfl⟩ := List.mem_map.1 h
        exact ⟨x, hx, rfl, List.mem_singleton.2 rfl⟩
      rw [e]
      dsimp only
      rw [hL, hP]
      dsimp only
      rw [hM, (SameLabels_iff l l).2 rfl, List.length_map]
      simp
end Go.Proofs.YtbjlmmeabonbpaaDoor
