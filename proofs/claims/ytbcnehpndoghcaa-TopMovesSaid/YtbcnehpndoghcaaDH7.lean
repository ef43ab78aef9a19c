/- Attach: by hand: what is done next has texts within bounds. -/
import Derived.Test.YtbcnehpndoghcaaDAfter
import Derived.Test.YtbcnehpndoghcaaDH5
set_option linter.unusedVariables false
set_option linter.unusedSimpArgs false
set_option maxRecDepth 100000
namespace Go.Proofs.Ytbcnehpndoghcaa
open Go Go.Eng
theorem putO_mem {x o : XObj} {l : List XObj} (h : o ∈ api_Object_stringF x l) : o = x ∨ o ∈ l := by
  unfold api_Object_stringF at h
  cases h2 : (api_Object_string_2F (attach_Attachments_1F x) l).2 with
  | true => rw [h2] at h; exact .inr h
  | false =>
    rw [h2, cond_false] at h
    rcases List.mem_append.1 h with h | h
    · exact .inr (List.mem_of_mem_take h)
    · rcases List.mem_append.1 h with h | h
      · exact .inl (List.mem_singleton.1 h)
      · exact .inr (List.mem_of_mem_drop h)
theorem atts_it_mem (n : ByteArray) {P : XObj → Prop} : ∀ (l v : List XObj) (m : List (XKey × Bool)), (∀ o ∈ l, P o) → (∀ o ∈ v, P o) → ∀ o ∈ attach_Attachments_itLF n l v m, P o
  | [], v, m, _, hv => by unfold attach_Attachments_itLF; exact hv
  | x :: r, v, m, hl, hv => by
    unfold attach_Attachments_itLF
    have hr : ∀ o ∈ r, P o := fun p hp => hl p (List.mem_cons_of_mem _ hp)
    cases (!((mget (k := .key) (v := .bool) m (object_KeyF x)).getD default)) with
    | true =>
      refine atts_it_mem n r _ _ hr fun o ho => ?_
      unfold attach_Attachments_rF at ho
      generalize cond (x.kind == (5 : Int)) (decide (x.volume = n)) false = b1 at ho
      cases b1
      · exact hv o ho
      · rcases putO_mem ho with rfl | h
        · exact hl o List.mem_cons_self
        · exact hv o h
    | false => exact atts_it_mem n r _ _ hr hv
theorem atts_mem {l : List XObj} {n : ByteArray} {o : XObj} (h : o ∈ attach_AttachmentsF l n) : o ∈ l :=
  atts_it_mem n (P := fun o => o ∈ l) l [] [] (fun _ h => h) (fun _ h => by simp at h) o h
theorem name_short {s : ByteArray} (h : object_NameF s = true) : s.size ≤ 40 := by
  unfold object_NameF at h
  cases h1 : object_NameLF s s.size 0 <;> rw [h1] at h
  · cases h2 : (!(decide (s = (⟨#[]⟩ : ByteArray)))) <;> rw [h2] at h
    · cases h
    · have h3 : ((s.size : Int) ≤ (40 : Int)) := of_decide_eq_true h
      omega
  · cases h
theorem volLF_obj (a : List XObj) (v : Int) (n : ByteArray) : ∀ l : List XObj, (attach_VolumeLF a v n l).2.obj = default ∨ ∃ o ∈ l, (attach_VolumeLF a v n l).2.obj = { o with phase := 9, num := IntKind.u64.wrap (v + 1) }
  | [] => .inl rfl
  | o :: r => by
    unfold attach_VolumeLF
    cases o.phase == (9 : Int)
    · cases (!(slices_Contains_string_stringF (o.node) (attach_WantedF a n)))
      · cases o.phase == (7 : Int)
        · exact (volLF_obj a v n r).imp id fun ⟨p, hp, e⟩ => ⟨p, List.mem_cons_of_mem _ hp, e⟩
        · exact .inl rfl
      · exact .inr ⟨o, List.mem_cons_self, rfl⟩
    · exact .inl rfl
theorem volL1F_obj (a : List XObj) (v : Int) (n : ByteArray) : ∀ l : List ByteArray, (attach_VolumeL1F a v n l).2.obj = default ∨ ∃ s ∈ l, (attach_VolumeL1F a v n l).2.obj = ⟨5, attF n s, 0, 0, false, false, ⟨#[]⟩, 0, 0, 0, false, false, ⟨#[]⟩, s, ⟨#[]⟩, n, ⟨#[]⟩, 7, IntKind.u64.wrap (v + 1), 0⟩ ∧ object_NameF (attF n s) = true
  | [] => .inl rfl
  | s :: r => by
    unfold attach_VolumeL1F
    cases api_ObjectF (attach_AttachmentsF a n) s with
    | true => exact (volL1F_obj a v n r).imp id fun ⟨p, hp, e⟩ => ⟨p, List.mem_cons_of_mem _ hp, e⟩
    | false =>
      rw [cond_false]
      show (cond (!(object_NameF (attF n s))) _ _ : Bool × XAct).2.obj = default ∨ ∃ s_1 ∈ s :: r, (cond (!(object_NameF (attF n s))) _ _ : Bool × XAct).2.obj = _ ∧ _
      cases h : object_NameF (attF n s) with
      | false => exact .inl rfl
      | true => exact .inr ⟨s, List.mem_cons_self, rfl, h⟩
/-- The object of what is done next. -/
theorem vol_obj (a : List XObj) (v : Int) (n : ByteArray) : (attach_VolumeF a v n).obj = default
    ∨ (∃ o ∈ attach_AttachmentsF a n, (attach_VolumeF a v n).obj = { o with phase := 9, num := IntKind.u64.wrap (v + 1) })
    ∨ (∃ s ∈ attach_WantedF a n, (attach_VolumeF a v n).obj = ⟨5, attF n s, 0, 0, false, false, ⟨#[]⟩, 0, 0, 0, false, false, ⟨#[]⟩, s, ⟨#[]⟩, n, ⟨#[]⟩, 7, IntKind.u64.wrap (v + 1), 0⟩ ∧ object_NameF (attF n s) = true) := by
  unfold attach_VolumeF
  cases (!((attach_getF a (4 : Int) n).2)) with
  | true => exact .inl rfl
  | false =>
    rw [cond_false]
    cases (attach_VolumeLF a v n (attach_AttachmentsF a n)).1 with
    | true =>
      rcases volLF_obj a v n (attach_AttachmentsF a n) with h | h
      · exact .inl h
      · exact .inr (.inl h)
    | false =>
      rw [cond_false]
      cases cond (!((((attach_getF a (4 : Int) n).1).phase) == (3 : Int))) true (cond ((((attach_getF a (4 : Int) n).1).mode) == (1 : Int)) (decide (((attach_AttachmentsF a n).length : Int) > (0 : Int))) false) with
      | true => exact .inl rfl
      | false =>
        rw [cond_false]
        cases (attach_VolumeL1F a v n (attach_WantedF a n)).1 with
        | true => exact .inl rfl
        | false =>
          rcases volL1F_obj a v n (attach_WantedF a n) with h | h
          · exact .inl h
          · exact .inr (.inr h)
theorem vol_fine (a : List XObj) (v : Int) (n : ByteArray) (h : ∀ o ∈ a, o.Fine) (hn : n.size ≤ 140737488351232) : (attach_VolumeF a v n).obj.Fine := by
  rcases vol_obj a v n with e | ⟨o, ho, e⟩ | ⟨s, hs, e, hq⟩
  · rw [e]; exact fine_default
  · rw [e]; exact h o (atts_mem ho)
  · rw [e]
    have h1 := name_short hq
    exact ⟨show (attF n s).size ≤ _ by omega, Int.le_refl 0, (by decide : (0 : Int) ≤ 18446744073709551615), Nat.zero_le _, Nat.zero_le _, Wanted_size a n h s hs, Nat.zero_le _, hn, Nat.zero_le _⟩
/-! ### The call that the document asks for -/
def ShortT (x : XAct) : Prop := x.call.target.size ≤ 140737488351232
theorem ShortT.cond {b : Bool} {x y : XAct} (hx : ShortT x) (hy : ShortT y) : ShortT (cond b x y) := by cases b; exact hy; exact hx
theorem shortt_default : ShortT default := Nat.zero_le _
theorem r13_volLF_short (a : List XObj) (v : Int) (n : ByteArray) (hn : n.size ≤ 140737488351232) : ∀ l : List XObj, ShortT (r13_VolumeLF a v n l).2
  | [] => shortt_default
  | o :: r => by
    unfold r13_VolumeLF
    cases o.phase == (9 : Int)
    · cases (!(r13_hasF (r13_WantedF a n) (o.node)))
      · cases o.phase == (7 : Int)
        · exact r13_volLF_short a v n hn r
        · exact hn
      · exact shortt_default
    · exact hn
theorem r13_volL1F_short (a : List XObj) (v : Int) (n : ByteArray) : ∀ (l : List ByteArray) (i : Nat), ShortT (r13_VolumeL1F a v n l i).2
  | [], _ => shortt_default
  | s :: r, i => by
    unfold r13_VolumeL1F
    cases r13_VolumeL2F a n i (r13_AttachmentsF a n) false with
    | true => exact r13_volL1F_short a v n r (i + 1)
    | false =>
      rw [cond_false]
      generalize cond (cond ((((r12_GetF a (4 : Int) n).1).mode) == (1 : Int)) (decide (((r13_AttachmentsF a n).length : Int) > (0 : Int))) false) true _ = b
      cases b <;> exact shortt_default
theorem r13_target (a : List XObj) (v : Int) (n : ByteArray) (hn : n.size ≤ 140737488351232) : (r13_VolumeF a v n).call.target.size ≤ 140737488351232 :=
  ShortT.cond shortt_default (ShortT.cond (r13_volLF_short a v n hn _) (ShortT.cond shortt_default (ShortT.cond (r13_volL1F_short a v n _ _) shortt_default)))
theorem volLF_short (a : List XObj) (v : Int) (n : ByteArray) : ∀ l : List XObj, (∀ o ∈ l, o.Fine) → ShortT (attach_VolumeLF a v n l).2
  | [], _ => shortt_default
  | o :: r, h => by
    have ho : o.volume.size ≤ 140737488351232 := (h o List.mem_cons_self).2.2.2.2.2.2.2.1
    unfold attach_VolumeLF
    cases o.phase == (9 : Int)
    · cases (!(slices_Contains_string_stringF (o.node) (attach_WantedF a n)))
      · cases o.phase == (7 : Int)
        · exact volLF_short a v n r fun p hp => h p (List.mem_cons_of_mem _ hp)
        · exact ho
      · exact shortt_default
    · exact ho
theorem volL1F_short (a : List XObj) (v : Int) (n : ByteArray) : ∀ l : List ByteArray, ShortT (attach_VolumeL1F a v n l).2
  | [] => shortt_default
  | s :: r => by
    unfold attach_VolumeL1F
    cases api_ObjectF (attach_AttachmentsF a n) s with
    | true => exact volL1F_short a v n r
    | false =>
      rw [cond_false]
      generalize (!(object_NameF _)) = b
      cases b <;> exact shortt_default
theorem vol_target (a : List XObj) (v : Int) (n : ByteArray) (h : ∀ o ∈ a, o.Fine) : (attach_VolumeF a v n).call.target.size ≤ 140737488351232 :=
  ShortT.cond shortt_default (ShortT.cond (volLF_short a v n _ fun o ho => h o (atts_mem ho)) (ShortT.cond shortt_default (ShortT.cond shortt_default (volL1F_short a v n _))))
theorem fine3 {a b c : XObj} (ha : a.Fine) (hb : b.Fine) (hc : c.Fine) : ∀ o ∈ [a, b, c], o.Fine := by
  simp only [List.mem_cons, List.not_mem_nil, or_false, forall_eq_or_imp, forall_eq]
  exact ⟨ha, hb, hc⟩
theorem fine4 {a b c d : XObj} (ha : a.Fine) (hb : b.Fine) (hc : c.Fine) (hd : d.Fine) : ∀ o ∈ [a, b, c, d], o.Fine := by
  simp only [List.mem_cons, List.not_mem_nil, or_false, forall_eq_or_imp, forall_eq]
  exact ⟨ha, hb, hc, hd⟩
end Go.Proofs.Ytbcnehpndoghcaa
