/- Attach: by hand: one of each name. -/
import Derived.Test.YtbcnehpndoghcaaDUniq
set_option linter.unusedVariables false
set_option linter.unusedSimpArgs false
set_option maxRecDepth 100000
namespace Go.Proofs.Ytbcnehpndoghcaa
open Go Go.Eng
theorem gD_mem {l : List XObj} {i : Nat} (h : i < l.length) : l.getD i default ∈ l := by
  rw [List.getD_eq_getElem?_getD, List.getElem?_eq_getElem h]
  exact List.getElem_mem h
theorem r12_GetLF_mem (k : Int) (n : ByteArray) : ∀ l : List XObj, (r12_GetLF k n l).2 = default ∨ (r12_GetLF k n l).2 ∈ l
  | [] => .inl rfl
  | o :: r => by
    unfold r12_GetLF
    cases (cond ((o.kind) == k) (decide ((o.name) = n)) false) with
    | true => exact .inr List.mem_cons_self
    | false => exact (r12_GetLF_mem k n r).imp id (List.mem_cons_of_mem _)
theorem r12_GetLF_none (k : Int) (n : ByteArray) : ∀ l : List XObj, (r12_GetLF k n l).1 = false → (r12_GetLF k n l).2 = default
  | [], _ => rfl
  | o :: r, h => by
    unfold r12_GetLF at h ⊢
    cases hc : (cond ((o.kind) == k) (decide ((o.name) = n)) false) with
    | true => rw [hc] at h; cases h
    | false => rw [hc] at h; exact r12_GetLF_none k n r h
/-- What the first one of a key is. -/
theorem r12_Get_eq (l : List XObj) (k : Int) (n : ByteArray) : r12_GetF l k n = ((r12_GetLF k n l).2, (r12_GetLF k n l).1) := by
  unfold r12_GetF
  cases h : (r12_GetLF k n l).1 with
  | true => rfl
  | false => rw [r12_GetLF_none k n l h]; rfl
theorem r12_Get_fine (l : List XObj) (k : Int) (n : ByteArray) (h : ∀ o ∈ l, o.Fine) : (r12_GetF l k n).1.Fine := by
  rw [r12_Get_eq]
  rcases r12_GetLF_mem k n l with e | e
  · show (r12_GetLF k n l).2.Fine
    rw [e]; exact fine_default
  · exact h _ e
theorem r12_UniqLF_len : ∀ (l v : List XObj), (r12_UniqLF l v).length ≤ v.length + l.length
  | [], v => Nat.le_refl _
  | o :: r, v => by
    unfold r12_UniqLF
    cases (!((r12_GetF v (o.kind) (o.name)).2)) with
    | true => have := r12_UniqLF_len r (v ++ [o]); simp only [cond_true, List.length_append, List.length_cons, List.length_nil] at this ⊢; omega
    | false => have := r12_UniqLF_len r v; simp only [cond_false, List.length_cons] at this ⊢; omega
theorem r12_UniqLF_sub : ∀ (l v : List XObj), ∀ o ∈ r12_UniqLF l v, o ∈ v ∨ o ∈ l
  | [], v, o, h => .inl h
  | x :: r, v, o, h => by
    unfold r12_UniqLF at h
    cases hc : (!((r12_GetF v (x.kind) (x.name)).2)) with
    | true =>
      rw [hc] at h
      rcases r12_UniqLF_sub r (v ++ [x]) o h with h | h
      · rcases List.mem_append.1 h with h | h
        · exact .inl h
        · exact .inr (by simp at h; subst h; exact List.mem_cons_self)
      · exact .inr (List.mem_cons_of_mem _ h)
    | false =>
      rw [hc] at h
      exact (r12_UniqLF_sub r v o h).imp id (List.mem_cons_of_mem _)
theorem r12_Uniq_le (l : List XObj) : (r12_UniqF l).length ≤ l.length := by
  have := r12_UniqLF_len l []
  unfold r12_UniqF
  simp only [List.length_nil] at this
  omega
theorem r12_Uniq_len (l : List XObj) (h : l.length ≤ 64) : (r12_UniqF l).length ≤ 64 := Nat.le_trans (r12_Uniq_le l) h
theorem r12_Uniq_short (l : List XObj) (h : l.length ≤ 64) : (r12_UniqF l).length < 4611686018427387904 := Nat.lt_of_le_of_lt (r12_Uniq_len l h) (by omega)
theorem r12_Uniq_fine (l : List XObj) (h : ∀ o ∈ l, o.Fine) : ∀ o ∈ r12_UniqF l, o.Fine := fun o ho => by
  rcases r12_UniqLF_sub l [] o ho with h1 | h1
  · cases h1
  · exact h o h1
/-! ### The same, as the program does it -/
end Go.Proofs.Ytbcnehpndoghcaa
