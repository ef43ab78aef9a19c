/- Data: what is found, and each once. -/
import Derived.Test.YtondcpkhedjajaaDoorDUniq
set_option linter.unusedVariables false
set_option linter.unusedSimpArgs false
namespace Go.Proofs.YtondcpkhedjajaaDoor
open Go Go.Eng
theorem getD_mem {l : List XObj} {i : Nat} (h : i < l.length) : l.getD i default ∈ l := by
  rw [List.getD_eq_getElem?_getD, List.getElem?_eq_getElem h]
  exact List.getElem_mem h
theorem w14_few_len (l : List XObj) : (w14_fewF l).length ≤ 24 := by
  unfold w14_fewF
  by_cases h : l.length ≤ 24
  · cases hc : decide ((l.length : Int) > 24) with
    | true => simp at hc; omega
    | false => simpa [hc] using h
  · cases hc : decide ((l.length : Int) > 24) with
    | true => simp; omega
    | false => simp at hc; omega
theorem w14_few_sub (l : List XObj) : ∀ o ∈ w14_fewF l, o ∈ l := by
  unfold w14_fewF
  intro o
  cases decide ((l.length : Int) > 24) with
  | true => simp only [cond_true, List.drop_zero]; exact List.mem_of_mem_take
  | false => exact id
theorem w14_few_fine {l : List XObj} (h : ∀ o ∈ l, o.Fine) : ∀ o ∈ w14_fewF l, o.Fine := fun o ho => h o (w14_few_sub l o ho)
theorem data_getLF_mem (k : Int) (n : ByteArray) : ∀ l : List XObj, (data_getLF k n l).2 = default ∨ (data_getLF k n l).2 ∈ l
  | [] => .inl rfl
  | o :: r => by
    unfold data_getLF
    cases (cond ((o.kind) == k) (decide ((o.name) = n)) false) with
    | true => exact .inr List.mem_cons_self
    | false => exact (data_getLF_mem k n r).imp id (List.mem_cons_of_mem _)
theorem r12_GetLF_eq (k : Int) (n : ByteArray) : ∀ l : List XObj, r12_GetLF k n l = data_getLF k n l
  | [] => rfl
  | o :: r => by unfold r12_GetLF data_getLF; rw [r12_GetLF_eq k n r]
theorem data_getLF_none (k : Int) (n : ByteArray) : ∀ l : List XObj, (data_getLF k n l).1 = false → (data_getLF k n l).2 = default
  | [], _ => rfl
  | o :: r, h => by
    unfold data_getLF at h ⊢
    cases hc : (cond ((o.kind) == k) (decide ((o.name) = n)) false) with
    | true => rw [hc] at h; cases h
    | false => rw [hc] at h; exact data_getLF_none k n r h
theorem r12_Get_eq (l : List XObj) (k : Int) (n : ByteArray) : r12_GetF l k n = data_getF l k n := by
  unfold r12_GetF data_getF
  rw [r12_GetLF_eq]
  cases h : (data_getLF k n l).1 with
  | true => rfl
  | false => rw [data_getLF_none k n l h]; rfl
theorem data_get_fine (l : List XObj) (k : Int) (n : ByteArray) (h : ∀ o ∈ l, o.Fine) : (data_getF l k n).1.Fine := by
  rcases data_getLF_mem k n l with e | e
  · show (data_getLF k n l).2.Fine
    rw [e]; exact fine_default
  · exact h _ e
theorem r12_Get_fine (l : List XObj) (k : Int) (n : ByteArray) (h : ∀ o ∈ l, o.Fine) : (r12_GetF l k n).1.Fine := by rw [r12_Get_eq]; exact data_get_fine l k n h
theorem r12_UniqLF_len : ∀ (l v : List XObj), (r12_UniqLF l v).length ≤ v.length + l.length
  | [], v => Nat.le_refl _
  | o :: r, v => by
    unfold r12_UniqLF
    cases (!((r12_GetF v (o.kind) (o.name)).2)) with
    | true => have := r12_UniqLF_len r (v ++ [o]); simp only [cond_true, List.length_append, List.length_cons, List.length_nil] at this ⊢; omega
    | false => have := r12_UniqLF_len r v; simp only [cond_false, List.length_cons] at this ⊢; omega
theorem r12_UniqLF_sub : ∀ (l v : List XObj), ∀ o ∈ r12_UniqLF l v, o ∈ v ∨ o ∈ l
  | [], v, o, h => .inl h
  | x :: r, v, o, h => by
    unfold r12_UniqLF at h
    cases hc : (!((r12_GetF v (x.kind) (x.name)).2)) with
    | true =>
      rw [hc] at h
      rcases r12_UniqLF_sub r (v ++ [x]) o h with h | h
      · rcases List.mem_append.1 h with h | h
        · exact .inl h
        · exact .inr (by simp at h; subst h; exact List.mem_cons_self)
      · exact .inr (List.mem_cons_of_mem _ h)
    | false =>
      rw [hc] at h
      exact (r12_UniqLF_sub r v o h).imp id (List.mem_cons_of_mem _)
theorem r12_Uniq_len (l : List XObj) (h : l.length ≤ 24) : (r12_UniqF l).length ≤ 24 := by
  have := r12_UniqLF_len l []
  unfold r12_UniqF
  simp only [List.length_nil] at this
  omega
theorem r12_Uniq_short (l : List XObj) (h : l.length ≤ 24) : (r12_UniqF l).length < 4611686018427387904 := Nat.lt_of_le_of_lt (r12_Uniq_len l h) (by omega)
theorem r12_Uniq_fine (l : List XObj) (h : ∀ o ∈ l, o.Fine) : ∀ o ∈ r12_UniqF l, o.Fine := fun o ho => by
  rcases r12_UniqLF_sub l [] o ho with h1 | h1
  · cases h1
  · exact h o h1
/-- What is there of a key, is there when each is there once. -/
theorem data_getLF_append (k : Int) (n : ByteArray) : ∀ (l v : List XObj), data_getLF k n (v ++ l) = cond (data_getLF k n v).1 (data_getLF k n v) (data_getLF k n l)
  | l, [] => rfl
  | l, o :: v => by
    simp only [List.cons_append]
    unfold data_getLF
    cases hc : (cond ((o.kind) == k) (decide ((o.name) = n)) false) with
    | true => rfl
    | false =>
      have := data_getLF_append k n l v
      cases l <;> exact this
theorem r12_UniqLF_get (k : Int) (n : ByteArray) : ∀ (l v : List XObj), data_getLF k n (r12_UniqLF l v) = cond (data_getLF k n v).1 (data_getLF k n v) (data_getLF k n l)
  | [], v => by
    unfold r12_UniqLF
    cases h : (data_getLF k n v).1 with
    | true => rfl
    | false => exact Prod.ext h (data_getLF_none k n v h)
  | o :: r, v => by
    unfold r12_UniqLF
    cases hc : (!((r12_GetF v (o.kind) (o.name)).2)) with
    | true =>
      rw [cond_true, r12_UniqLF_get k n r (v ++ [o]), data_getLF_append]
      cases h : (data_getLF k n v).1 with
      | true => simp only [cond_true, h]
      | false =>
        simp only [cond_false, data_getLF]
        cases hq : (cond ((o.kind) == k) (decide ((o.name) = n)) false) <;> rfl
    | false =>
      rw [cond_false, r12_UniqLF_get k n r v]
      cases h : (data_getLF k n v).1 with
      | true => rfl
      | false =>
        simp only [cond_false]
        conv => rhs; unfold data_getLF
        cases hq : (cond ((o.kind) == k) (decide ((o.name) = n)) false) with
        | false => rfl
        | true =>
          exfalso
          rw [r12_Get_eq] at hc
          have h1 : o.kind = k ∧ o.name = n := by
            cases hk : (o.kind == k) with
            | false => rw [hk] at hq; cases hq
            | true => rw [hk] at hq; exact ⟨by simpa using hk, by simpa using hq⟩
          obtain ⟨rfl, rfl⟩ := h1
          simp only [data_getF, h] at hc
          cases hc
theorem r12_Uniq_get (l : List XObj) (k : Int) (n : ByteArray) : r12_GetF (r12_UniqF l) k n = data_getF l k n := by
  rw [r12_Get_eq]
  unfold data_getF r12_UniqF
  rw [r12_UniqLF_get]
  rfl
end Go.Proofs.YtondcpkhedjajaaDoor
