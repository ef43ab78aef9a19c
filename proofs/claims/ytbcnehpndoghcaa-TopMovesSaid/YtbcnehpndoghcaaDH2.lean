/- Attach: by hand: how long lists are, how long texts. -/
import Derived.Test.YtbcnehpndoghcaaDRef2
set_option linter.unusedVariables false
set_option linter.unusedSimpArgs false
set_option maxRecDepth 100000
namespace Go.Proofs.Ytbcnehpndoghcaa
open Go Go.Eng
theorem Attachments_it_len (n : ByteArray) : ∀ (l v : List XObj) (m : List (XKey × Bool)), (attach_Attachments_itLF n l v m).length ≤ v.length + l.length
  | [], v, m => by unfold attach_Attachments_itLF; simp
  | o :: r, v, m => by
    unfold attach_Attachments_itLF
    cases (!((mget (k := .key) (v := .bool) m (object_KeyF o)).getD default)) with
    | true =>
      have h1 := Attachments_it_len n r (attach_Attachments_rF o n v) (mset (k := .key) (v := .bool) m (object_KeyF o) true)
      have h2 := attach_Attachments_r_len o n v
      simp only [cond_true, List.length_cons]
      omega
    | false =>
      have h1 := Attachments_it_len n r v (mset (k := .key) (v := .bool) m (object_KeyF o) true)
      simp only [cond_false, List.length_cons]
      omega
theorem Attachments_len (l : List XObj) (n : ByteArray) : (attach_AttachmentsF l n).length ≤ l.length := by
  have := Attachments_it_len n l [] []
  rw [List.length_nil, Nat.zero_add] at this
  exact this
theorem Wanted_it_len (a : List XObj) (n : ByteArray) : ∀ (l : List XObj) (v : List ByteArray) (m : List (XKey × Bool)), (attach_Wanted_itLF a n l v m).length ≤ v.length + l.length
  | [], v, m => by unfold attach_Wanted_itLF; simp
  | o :: r, v, m => by
    unfold attach_Wanted_itLF
    cases (!((mget (k := .key) (v := .bool) m (object_KeyF o)).getD default)) with
    | true =>
      have h1 := Wanted_it_len a n r (attach_Wanted_rF o a n v) (mset (k := .key) (v := .bool) m (object_KeyF o) true)
      have h2 := attach_Wanted_r_len o a n v
      simp only [cond_true, List.length_cons]
      omega
    | false =>
      have h1 := Wanted_it_len a n r v (mset (k := .key) (v := .bool) m (object_KeyF o) true)
      simp only [cond_false, List.length_cons]
      omega
theorem Wanted_len (l : List XObj) (n : ByteArray) : (attach_WantedF l n).length ≤ l.length := by
  unfold attach_WantedF
  have := Wanted_it_len l n l [] []
  generalize cond (!((attach_getF l (4 : Int) n).2)) true (!((((attach_getF l (4 : Int) n).1).phase) == (3 : Int))) = b
  cases b with
  | true => exact Nat.zero_le _
  | false => rw [List.length_nil, Nat.zero_add] at this; exact this
theorem putS_mem {x s : ByteArray} {l : List ByteArray} (h : s ∈ attach_put_string_stringF x l) : s = x ∨ s ∈ l := by
  unfold attach_put_string_stringF at h
  cases h2 : (slices_BinarySearchFunc_string_string_stringF (attach_Wanted_1F x) l).2 with
  | true => rw [h2] at h; exact .inr h
  | false =>
    rw [h2, cond_false] at h
    rcases List.mem_append.1 h with h | h
    · exact .inr (List.mem_of_mem_take h)
    · rcases List.mem_append.1 h with h | h
      · exact .inl (List.mem_singleton.1 h)
      · exact .inr (List.mem_of_mem_drop h)
theorem Wanted_it_mem (a : List XObj) (n : ByteArray) {P : ByteArray → Prop} : ∀ (l : List XObj) (v : List ByteArray) (m : List (XKey × Bool)), (∀ o ∈ l, P o.node) → (∀ s ∈ v, P s) → ∀ s ∈ attach_Wanted_itLF a n l v m, P s
  | [], v, m, _, hv => by unfold attach_Wanted_itLF; exact hv
  | o :: r, v, m, hl, hv => by
    unfold attach_Wanted_itLF
    have hr : ∀ o ∈ r, P o.node := fun p hp => hl p (List.mem_cons_of_mem _ hp)
    cases (!((mget (k := .key) (v := .bool) m (object_KeyF o)).getD default)) with
    | true =>
      refine Wanted_it_mem a n r _ _ hr fun s hs => ?_
      unfold attach_Wanted_rF at hs
      generalize cond (cond (!(o.kind == (6 : Int))) true o.deleting) true (decide (o.node = (⟨#[]⟩ : ByteArray))) = b1 at hs
      generalize cond (cond ((attach_getF a (3 : Int) o.claim).2) ((((attach_getF a (3 : Int) o.claim).1).phase) == (3 : Int)) false) (decide ((((attach_getF a (3 : Int) o.claim).1).volume) = n)) false = b2 at hs
      cases b1
      · cases b2
        · exact hv s hs
        · rcases putS_mem hs with rfl | h
          · exact hl o List.mem_cons_self
          · exact hv s h
      · exact hv s hs
    | false => exact Wanted_it_mem a n r _ _ hr hv
theorem Wanted_size (l : List XObj) (n : ByteArray) (h : ∀ o ∈ l, o.Fine) : ∀ s ∈ attach_WantedF l n, s.size ≤ 140737488351232 := by
  unfold attach_WantedF
  have := Wanted_it_mem l n (P := fun s => s.size ≤ 140737488351232) l [] [] (fun o ho => (h o ho).2.2.2.2.2.1) (fun s hs => by simp at hs)
  generalize cond (!((attach_getF l (4 : Int) n).2)) true (!((((attach_getF l (4 : Int) n).1).phase) == (3 : Int))) = b
  cases b with
  | true => intro s hs; simp at hs
  | false => exact this
theorem Wanted_at (l : List XObj) (n : ByteArray) (h : ∀ o ∈ l, o.Fine) (i : Nat) : ((attach_WantedF l n).getD i default).size ≤ 140737488351232 := by
  rw [List.getD_eq_getElem?_getD]
  rcases Nat.lt_or_ge i (attach_WantedF l n).length with hi | hi
  · rw [List.getElem?_eq_getElem hi]; exact Wanted_size l n h _ (List.getElem_mem hi)
  · rw [List.getElem?_eq_none hi]; exact Nat.zero_le _
end Go.Proofs.Ytbcnehpndoghcaa
