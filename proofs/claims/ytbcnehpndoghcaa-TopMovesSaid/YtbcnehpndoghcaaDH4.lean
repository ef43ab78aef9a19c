/- Attach: by hand: the document's lists: how long, how long their texts. -/
import Derived.Test.YtbcnehpndoghcaaDRDef
set_option linter.unusedVariables false
set_option linter.unusedSimpArgs false
set_option maxRecDepth 100000
namespace Go.Proofs.Ytbcnehpndoghcaa
open Go Go.Eng
theorem r13_Wanted_it_len (a : List XObj) (n : ByteArray) : ∀ (l : List XObj) (v : List ByteArray), (r13_WantedLF a n l v).length ≤ v.length + l.length
  | [], v => by unfold r13_WantedLF; simp
  | o :: r, v => by
    unfold r13_WantedLF
    have h1 := r13_Wanted_it_len a n r v
    have h2 := r13_Wanted_it_len a n r (r13_insertF v o.node)
    have h3 := r13_insertF_len v o.node
    generalize cond (cond (!((o.kind) == (6 : Int))) true (decide ((o.node) = (⟨#[]⟩ : ByteArray)))) true (o.deleting) = b1
    generalize cond (cond ((r12_GetF (r12_UniqF a) (3 : Int) (o.claim)).2) ((((r12_GetF (r12_UniqF a) (3 : Int) (o.claim)).1).phase) == (3 : Int)) false) (decide ((((r12_GetF (r12_UniqF a) (3 : Int) (o.claim)).1).volume) = n)) false = b2
    cases b1 <;> cases b2 <;> simp only [cond_true, cond_false, List.length_cons] <;> omega
theorem r13_Wanted_len (l : List XObj) (n : ByteArray) : (r13_WantedF l n).length ≤ l.length := by
  unfold r13_WantedF
  have h1 := r13_Wanted_it_len l n (r12_UniqF l) []
  have h2 := r12_Uniq_le l
  rw [List.length_nil, Nat.zero_add] at h1
  generalize cond (!((r12_GetF (r12_UniqF l) (4 : Int) n).2)) true (!((((r12_GetF (r12_UniqF l) (4 : Int) n).1).phase) == (3 : Int))) = b
  cases b with
  | true => exact Nat.zero_le _
  | false => exact Nat.le_trans h1 h2
theorem r13_Attachments_it_len (a : List XObj) (n : ByteArray) : ∀ (l : List XObj) (i : Nat) (v : List XObj), (r13_AttachmentsLF a n l i v).length ≤ v.length + l.length
  | [], i, v => by unfold r13_AttachmentsLF; simp
  | o :: r, i, v => by
    unfold r13_AttachmentsLF
    have h1 := r13_Attachments_it_len a n r (i + 1) v
    have h2 := r13_Attachments_it_len a n r (i + 1) (((r13_AttachmentsL1F a i v false []).2) ++ [o])
    have h3 := r13_Attachments_it_len a n r (i + 1) ((r13_AttachmentsL1F a i v false []).2)
    have h4 := r13_AttachmentsL1F_len a i v false []
    simp only [List.length_append, List.length_cons, List.length_nil, cond_false] at *
    generalize cond (!((o.kind) == (5 : Int))) true (!(decide ((o.volume) = n))) = b1
    cases b1 <;> cases hb : (r13_AttachmentsL1F a i v false []).1 <;> rw [hb] at h4 <;> simp only [cond_true, cond_false, Bool.not_true, Bool.not_false] at * <;> omega
theorem r13_Attachments_len (l : List XObj) (n : ByteArray) : (r13_AttachmentsF l n).length ≤ l.length := by
  have h1 := r13_Attachments_it_len l n (r12_UniqF l) 0 []
  have h2 := r12_Uniq_le l
  rw [List.length_nil, Nat.zero_add] at h1
  exact Nat.le_trans h1 h2
theorem r13_insertLF_mem (x : ByteArray) {P : ByteArray → Prop} (hx : P x) : ∀ (l : List ByteArray) (p : Bool) (v : List ByteArray), (∀ s ∈ l, P s) → (∀ s ∈ v, P s) → ∀ s ∈ (r13_insertLF x l p v).2, P s
  | [], p, v, _, hv => by unfold r13_insertLF; exact hv
  | o :: r, p, v, hl, hv => by
    have hr : ∀ s ∈ r, P s := fun s hs => hl s (List.mem_cons_of_mem _ hs)
    have ho := hl o List.mem_cons_self
    have app : ∀ (v : List ByteArray) (y : ByteArray), (∀ s ∈ v, P s) → P y → ∀ s ∈ v ++ [y], P s := fun v y hv hy s hs => by
      rcases List.mem_append.1 hs with hs | hs
      · exact hv s hs
      · rw [List.mem_singleton.1 hs]; exact hy
    unfold r13_insertLF
    generalize cond (!p) (strLess x o || decide (x = o)) false = b1
    generalize (!(decide (o = x))) = b2
    cases b1 <;> cases b2
    · exact r13_insertLF_mem x hx r p v hr hv
    · exact r13_insertLF_mem x hx r p _ hr (app _ _ hv ho)
    · exact r13_insertLF_mem x hx r true _ hr (app _ _ hv hx)
    · exact r13_insertLF_mem x hx r true _ hr (app _ _ (app _ _ hv hx) ho)
theorem r13_insertF_mem (x : ByteArray) {P : ByteArray → Prop} (hx : P x) (l : List ByteArray) (hl : ∀ s ∈ l, P s) : ∀ s ∈ r13_insertF l x, P s := by
  have h := r13_insertLF_mem x hx l false [] hl (fun s hs => by simp at hs)
  unfold r13_insertF
  cases (r13_insertLF x l false []).1
  · intro s hs
    rcases List.mem_append.1 hs with hs | hs
    · exact h s hs
    · rw [List.mem_singleton.1 hs]; exact hx
  · exact h
theorem r13_Wanted_it_mem (a : List XObj) (n : ByteArray) {P : ByteArray → Prop} : ∀ (l : List XObj) (v : List ByteArray), (∀ o ∈ l, P o.node) → (∀ s ∈ v, P s) → ∀ s ∈ r13_WantedLF a n l v, P s
  | [], v, _, hv => by unfold r13_WantedLF; exact hv
  | o :: r, v, hl, hv => by
    have hr : ∀ o ∈ r, P o.node := fun p hp => hl p (List.mem_cons_of_mem _ hp)
    unfold r13_WantedLF
    generalize cond (cond (!((o.kind) == (6 : Int))) true (decide ((o.node) = (⟨#[]⟩ : ByteArray)))) true (o.deleting) = b1
    generalize cond (cond ((r12_GetF (r12_UniqF a) (3 : Int) (o.claim)).2) ((((r12_GetF (r12_UniqF a) (3 : Int) (o.claim)).1).phase) == (3 : Int)) false) (decide ((((r12_GetF (r12_UniqF a) (3 : Int) (o.claim)).1).volume) = n)) false = b2
    cases b1 <;> cases b2
    · exact r13_Wanted_it_mem a n r v hr hv
    · exact r13_Wanted_it_mem a n r _ hr (r13_insertF_mem _ (hl o List.mem_cons_self) v hv)
    · exact r13_Wanted_it_mem a n r v hr hv
    · exact r13_Wanted_it_mem a n r v hr hv
theorem r13_Wanted_size (l : List XObj) (n : ByteArray) (h : ∀ o ∈ l, o.Fine) : ∀ s ∈ r13_WantedF l n, s.size ≤ 140737488351232 := by
  unfold r13_WantedF
  have := r13_Wanted_it_mem l n (P := fun s => s.size ≤ 140737488351232) (r12_UniqF l) [] (fun o ho => (r12_Uniq_fine l h o ho).2.2.2.2.2.1) (fun s hs => by simp at hs)
  generalize cond (!((r12_GetF (r12_UniqF l) (4 : Int) n).2)) true (!((((r12_GetF (r12_UniqF l) (4 : Int) n).1).phase) == (3 : Int))) = b
  cases b with
  | true => intro s hs; simp at hs
  | false => exact this
theorem r13_Wanted_at (l : List XObj) (n : ByteArray) (h : ∀ o ∈ l, o.Fine) (i : Nat) : ((r13_WantedF l n).getD i default).size ≤ 140737488351232 := by
  rw [List.getD_eq_getElem?_getD]
  rcases Nat.lt_or_ge i (r13_WantedF l n).length with hi | hi
  · rw [List.getElem?_eq_getElem hi]; exact r13_Wanted_size l n h _ (List.getElem_mem hi)
  · rw [List.getElem?_eq_none hi]; exact Nat.zero_le _
theorem r03_default_name {x : XObj} (h : x.Fine) : (r03_DefaultF x).name.size < 4611686018427387904 := by
  have hc : ∀ (b : Bool) (x y : XObj), x.name.size < 4611686018427387904 → y.name.size < 4611686018427387904 → (cond b x y).name.size < 4611686018427387904 := fun b x y hx hy => by cases b; exact hy; exact hx
  have h1 : x.name.size < 4611686018427387904 := Nat.lt_of_le_of_lt h.1 (by decide)
  have h2 : (r03_AttachNameF x.volume x.node).size < 4611686018427387904 := by
    rw [show r03_AttachNameF x.volume x.node = attF x.volume x.node from rfl, attF_size]
    have h3 := h.2.2.2.2.2.1
    have h4 := h.2.2.2.2.2.2.2.1
    omega
  unfold r03_DefaultF
  repeat (first | (with_reducible refine hc _ _ _ ?_ ?_) | exact h1 | exact h2)
end Go.Proofs.Ytbcnehpndoghcaa
