/- Bind: what is found, and each once. -/
import Derived.Test.YtnfmnipckcidlaaDoorDGet
set_option linter.unusedVariables false
set_option linter.unusedSimpArgs false
namespace Go.Proofs.YtnfmnipckcidlaaDoor
open Go Go.Eng
theorem gD_mem {l : List XObj} {i : Nat} (h : i < l.length) : l.getD i default ∈ l := by
  rw [List.getD_eq_getElem?_getD, List.getElem?_eq_getElem h]
  exact List.getElem_mem h
theorem w12_few_len (l : List XObj) : (w12_fewF l).length ≤ 24 := by
  unfold w12_fewF
  by_cases h : l.length ≤ 24
  · cases hc : decide ((l.length : Int) > 24) with
    | true => simp at hc; omega
    | false => simpa [hc] using h
  · cases hc : decide ((l.length : Int) > 24) with
    | true => simp; omega
    | false => simp at hc; omega
theorem w12_few_sub (l : List XObj) : ∀ o ∈ w12_fewF l, o ∈ l := by
  unfold w12_fewF
  intro o
  cases decide ((l.length : Int) > 24) with
  | true => simp only [cond_true, List.drop_zero]; exact List.mem_of_mem_take
  | false => exact id
theorem w12_few_fine {l : List XObj} (h : ∀ o ∈ l, o.Fine) : ∀ o ∈ w12_fewF l, o.Fine := fun o ho => h o (w12_few_sub l o ho)
theorem r12_GetLF_mem (k : Int) (n : ByteArray) : ∀ l : List XObj, (r12_GetLF k n l).2 = default ∨ (r12_GetLF k n l).2 ∈ l
  | [] => .inl rfl
  | o :: r => by
    unfold r12_GetLF
    cases (cond ((o.kind) == k) (decide ((o.name) = n)) false) with
    | true => exact .inr List.mem_cons_self
    | false => exact (r12_GetLF_mem k n r).imp id (List.mem_cons_of_mem _)
theorem r12_GetLF_none (k : Int) (n : ByteArray) : ∀ l : List XObj, (r12_GetLF k n l).1 = false → (r12_GetLF k n l).2 = default
  | [], _ => rfl
  | o :: r, h => by
    unfold r12_GetLF at h ⊢
    cases hc : (cond ((o.kind) == k) (decide ((o.name) = n)) false) with
    | true => rw [hc] at h; cases h
    | false => rw [hc] at h; exact r12_GetLF_none k n r h
/-- What the first one of a key is. -/
theorem r12_Get_eq (l : List XObj) (k : Int) (n : ByteArray) : r12_GetF l k n = ((r12_GetLF k n l).2, (r12_GetLF k n l).1) := by
  unfold r12_GetF
  cases h : (r12_GetLF k n l).1 with
  | true => rfl
  | false => rw [r12_GetLF_none k n l h]; rfl
theorem r12_Get_fine (l : List XObj) (k : Int) (n : ByteArray) (h : ∀ o ∈ l, o.Fine) : (r12_GetF l k n).1.Fine := by
  rw [r12_Get_eq]
  rcases r12_GetLF_mem k n l with e | e
  · show (r12_GetLF k n l).2.Fine
    rw [e]; exact fine_default
  · exact h _ e
theorem r12_UniqLF_len : ∀ (l v : List XObj), (r12_UniqLF l v).length ≤ v.length + l.length
  | [], v => Nat.le_refl _
  | o :: r, v => by
    unfold r12_UniqLF
    cases (!((r12_GetF v (o.kind) (o.name)).2)) with
    | true => have := r12_UniqLF_len r (v ++ [o]); simp only [cond_true, List.length_append, List.length_cons, List.length_nil] at this ⊢; omega
    | false => have := r12_UniqLF_len r v; simp only [cond_false, List.length_cons] at this ⊢; omega
theorem r12_UniqLF_sub : ∀ (l v : List XObj), ∀ o ∈ r12_UniqLF l v, o ∈ v ∨ o ∈ l
  | [], v, o, h => .inl h
  | x :: r, v, o, h => by
    unfold r12_UniqLF at h
    cases hc : (!((r12_GetF v (x.kind) (x.name)).2)) with
    | true =>
      rw [hc] at h
      rcases r12_UniqLF_sub r (v ++ [x]) o h with h | h
      · rcases List.mem_append.1 h with h | h
        · exact .inl h
        · exact .inr (by simp at h; subst h; exact List.mem_cons_self)
      · exact .inr (List.mem_cons_of_mem _ h)
    | false =>
      rw [hc] at h
      exact (r12_UniqLF_sub r v o h).imp id (List.mem_cons_of_mem _)
theorem r12_Uniq_le (l : List XObj) : (r12_UniqF l).length ≤ l.length := by
  have := r12_UniqLF_len l []
  unfold r12_UniqF
  simp only [List.length_nil] at this
  omega
theorem r12_Uniq_len (l : List XObj) (h : l.length ≤ 64) : (r12_UniqF l).length ≤ 64 := Nat.le_trans (r12_Uniq_le l) h
theorem r12_Uniq_short (l : List XObj) (h : l.length ≤ 64) : (r12_UniqF l).length < 4611686018427387904 := Nat.lt_of_le_of_lt (r12_Uniq_len l h) (by omega)
theorem r12_Uniq_fine (l : List XObj) (h : ∀ o ∈ l, o.Fine) : ∀ o ∈ r12_UniqF l, o.Fine := fun o ho => by
  rcases r12_UniqLF_sub l [] o ho with h1 | h1
  · cases h1
  · exact h o h1
/-! ### The same, as the program does it -/
theorem key_eqb (x y : XKey) : Kind.eqb .key x y = (x.kind == y.kind && decide (x.name = y.name)) := rfl
theorem mset_cons (e : XKey × Bool) (r : List (XKey × Bool)) (k : XKey) (b : Bool) : mset (k := .key) (v := .bool) (e :: r) k b = if (k.kind == e.1.kind && decide (k.name = e.1.name)) = true then (k, b) :: r else e :: mset (k := .key) (v := .bool) r k b := rfl
theorem mget_cons (e : XKey × Bool) (r : List (XKey × Bool)) (k : XKey) : mget (k := .key) (v := .bool) (e :: r) k = if (k.kind == e.1.kind && decide (k.name = e.1.name)) = true then some e.2 else mget (k := .key) (v := .bool) r k := rfl
theorem mget_mset_key : ∀ (m : List (XKey × Bool)) (k k' : XKey) (b : Bool), mget (k := .key) (v := .bool) (mset (k := .key) (v := .bool) m k b) k' = if (k'.kind == k.kind && decide (k'.name = k.name)) = true then some b else mget (k := .key) (v := .bool) m k'
  | [], k, k', b => rfl
  | e :: r, k, k', b => by
    rw [mset_cons]
    by_cases h : (k.kind == e.1.kind && decide (k.name = e.1.name)) = true
    · rw [if_pos h, mget_cons, mget_cons]
      by_cases h2 : (k'.kind == k.kind && decide (k'.name = k.name)) = true
      · rw [if_pos h2, if_pos h2]
      · rw [if_neg h2, if_neg h2, if_neg]
        intro h3
        simp only [Bool.and_eq_true, beq_iff_eq, decide_eq_true_eq] at h h2 h3
        exact h2 ⟨h3.1.trans h.1.symm, h3.2.trans h.2.symm⟩
    · rw [if_neg h, mget_cons, mget_cons, mget_mset_key r k k' b]
      by_cases h2 : (k'.kind == k.kind && decide (k'.name = k.name)) = true
      · have h3 : ¬ (k'.kind == e.1.kind && decide (k'.name = e.1.name)) = true := by
          intro h3
          simp only [Bool.and_eq_true, beq_iff_eq, decide_eq_true_eq] at h h2 h3
          exact h ⟨h2.1.symm.trans h3.1, h2.2.symm.trans h3.2⟩
        rw [if_pos h2, if_neg h3, if_pos h2]
      · rw [if_neg h2, if_neg h2]
theorem r12_GetLF_append (k : Int) (n : ByteArray) : ∀ (v l : List XObj), r12_GetLF k n (v ++ l) = cond (r12_GetLF k n v).1 (r12_GetLF k n v) (r12_GetLF k n l)
  | [], l => rfl
  | o :: v, l => by
    simp only [List.cons_append, r12_GetLF]
    cases hc : (cond ((o.kind) == k) (decide ((o.name) = n)) false) with
    | true => rfl
    | false => exact r12_GetLF_append k n v l
theorem of_step : ∀ (l : List XObj) (m : List (XKey × Bool)) (v : List XObj), (∀ k n, (mget (k := .key) (v := .bool) m ⟨k, n⟩).getD default = (r12_GetLF k n v).1) → bind_ofLF l m v = r12_UniqLF l v
  | [], m, v, _ => rfl
  | o :: r, m, v, h => by
    unfold bind_ofLF r12_UniqLF
    rw [r12_Get_eq]
    have h0 := h o.kind o.name
    show cond (!((mget (k := .key) (v := .bool) m ⟨o.kind, o.name⟩).getD default)) _ _ = cond (!(r12_GetLF o.kind o.name v).1) _ _
    rw [h0]
    cases hc : (r12_GetLF o.kind o.name v).1 with
    | true => exact of_step r m v h
    | false =>
      refine of_step r _ (v ++ [o]) fun k n => ?_
      show (mget (k := .key) (v := .bool) (mset (k := .key) (v := .bool) m ⟨o.kind, o.name⟩ true) ⟨k, n⟩).getD default = _
      rw [mget_mset_key, r12_GetLF_append]
      by_cases h2 : (k == o.kind && decide (n = o.name)) = true
      · rw [if_pos h2]
        simp only [Bool.and_eq_true, beq_iff_eq, decide_eq_true_eq] at h2
        obtain ⟨rfl, rfl⟩ := h2
        rw [hc]
        simp [r12_GetLF]
      · rw [if_neg h2, h k n]
        cases hv : (r12_GetLF k n v).1 with
        | true => simp [hv]
        | false =>
          have : (cond (o.kind == k) (decide (o.name = n)) false) = false := by
            cases h3 : (o.kind == k) with
            | false => rfl
            | true =>
              have e3 : o.kind = k := by simpa using h3
              simp only [cond_true, decide_eq_false_iff_not]
              intro e
              exact h2 (by simp [e3, e])
          simp [r12_GetLF, this]
/-- What is there of a key, each once, is the same. -/
theorem of_eq (l : List XObj) : bind_ofF l = r12_UniqF l := by
  unfold bind_ofF r12_UniqF
  exact of_step l [] [] fun k n => rfl
theorem of_len (l : List XObj) (h : l.length ≤ 64) : (bind_ofF l).length ≤ 64 := by rw [of_eq]; exact r12_Uniq_len l h
theorem of_short (l : List XObj) (h : l.length ≤ 64) : (bind_ofF l).length < 4611686018427387904 := by rw [of_eq]; exact r12_Uniq_short l h
theorem of_fine (l : List XObj) (h : ∀ o ∈ l, o.Fine) : ∀ o ∈ bind_ofF l, o.Fine := by rw [of_eq]; exact r12_Uniq_fine l h
theorem get_itLF_eq (k : Int) (n : ByteArray) (w : List XObj) : ∀ l, bind_world_get_itLF k n w l = r12_GetLF k n l
  | [] => rfl
  | o :: r => by unfold bind_world_get_itLF r12_GetLF; rw [get_itLF_eq k n w r]; rfl
theorem get_eq (k : Int) (n : ByteArray) (l : List XObj) : bind_world_getF k n l = r12_GetF l k n := by
  unfold bind_world_getF bind_world_get_itF r12_GetF
  rw [get_itLF_eq]
  cases (r12_GetLF k n l).1 <;> rfl
theorem get_fine (k : Int) (n : ByteArray) (l : List XObj) (h : ∀ o ∈ l, o.Fine) : (bind_world_getF k n l).1.Fine := by rw [get_eq]; exact r12_Get_fine l k n h
theorem cons2_fine {x y : XObj} {l : List XObj} (hx : x.Fine) (hy : y.Fine) (h : ∀ o ∈ l, o.Fine) : ∀ o ∈ [x, y] ++ l, o.Fine := fun o ho => by
  simp only [List.cons_append, List.nil_append, List.mem_cons] at ho
  rcases ho with rfl | rfl | ho
  · exact hx
  · exact hy
  · exact h o ho
theorem ref_size (c : XObj) : (r12_RefF c).size ≤ 140737488351232 := by
  unfold r12_RefF r12_HandleF r12_longF
  cases h : (decide ((((((⟨#[112, 118, 99, 47]⟩ : ByteArray) ++ c.name) ++ (⟨#[35]⟩ : ByteArray)) ++ (fmtU c.born)).size : Int) > (40 : Int))) with
  | true => exact Nat.zero_le _
  | false =>
    simp only [decide_eq_false_iff_not, ByteArray.size_append, size_mk, List.size_toArray, List.length_cons, List.length_nil] at h
    simp only [cond_false]
    cases (decide ((((⟨#[112, 118, 99, 47]⟩ : ByteArray) ++ c.name) ++ (⟨#[35]⟩ : ByteArray)) ++ (fmtU c.born) = (⟨#[]⟩ : ByteArray))) with
    | true => exact Nat.zero_le _
    | false => simp only [cond_false, ByteArray.size_append, size_mk, List.size_toArray, List.length_cons, List.length_nil]; omega
end Go.Proofs.YtnfmnipckcidlaaDoor
