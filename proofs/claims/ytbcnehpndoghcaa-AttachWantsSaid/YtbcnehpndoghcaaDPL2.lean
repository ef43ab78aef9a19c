/- Attach: plain laws: what is made is wanted. -/
import Derived.Test.YtbcnehpndoghcaaDPL1
set_option linter.unusedVariables false
set_option linter.unusedSimpArgs false
set_option maxRecDepth 100000
namespace Go.Proofs.Ytbcnehpndoghcaa
open Go Go.Eng
theorem indexLF_iff (s : ByteArray) : ∀ (l : List ByteArray) (i : Nat), ((slices_Index_string_stringLF s l i).1 = true ↔ s ∈ l) ∧ ((slices_Index_string_stringLF s l i).1 = true → 0 ≤ (slices_Index_string_stringLF s l i).2)
  | [], i => by unfold slices_Index_string_stringLF; simp
  | o :: r, i => by
    unfold slices_Index_string_stringLF
    by_cases h : s = o
    · rw [decide_eq_true h]; subst h; exact ⟨⟨fun _ => List.mem_cons_self, fun _ => rfl⟩, fun _ => by show (0 : Int) ≤ (i : Int); omega⟩
    · rw [decide_eq_false h, cond_false]
      obtain ⟨h1, h2⟩ := indexLF_iff s r (i + 1)
      refine ⟨h1.trans ⟨fun hm => List.mem_cons_of_mem _ hm, fun hm => ?_⟩, h2⟩
      rcases List.mem_cons.1 hm with e | hm
      · exact absurd e h
      · exact hm
theorem contains_iff (s : ByteArray) (l : List ByteArray) : slices_Contains_string_stringF s l = true ↔ s ∈ l := by
  unfold slices_Contains_string_stringF slices_Index_string_stringF
  obtain ⟨h1, h2⟩ := indexLF_iff s l 0
  cases h : (slices_Index_string_stringLF s l 0).1 with
  | true =>
    rw [h] at h1 h2
    rw [cond_true, decide_eq_true (h2 rfl)]
    exact h1
  | false =>
    rw [h] at h1
    rw [cond_false]
    exact h1
theorem wantLF_iff (a : List XObj) (v : Int) (n : ByteArray) : ∀ (l : List ByteArray) (b : Bool), w13_AttachWantedLF a v n l b = true ↔ b = true ∨ (attach_VolumeF (w13_fewF a) v n).obj.node ∈ l
  | [], b => by unfold w13_AttachWantedLF; simp
  | o :: r, b => by
    unfold w13_AttachWantedLF
    rw [wantLF_iff a v n r]
    cases b with
    | true => simp
    | false =>
      simp only [cond_false, decide_eq_true_eq, Bool.false_eq_true, false_or, List.mem_cons]
      exact ⟨fun h => h.imp Eq.symm id, fun h => h.imp Eq.symm id⟩
theorem default_keeps (x : XObj) : (object_DefaultF x).node = x.node ∧ (object_DefaultF x).volume = x.volume ∧ (object_DefaultF x).version = x.version := by
  have hc : ∀ (b : Bool) (y z : XObj), (y.node = x.node ∧ y.volume = x.volume ∧ y.version = x.version) → (z.node = x.node ∧ z.volume = x.volume ∧ z.version = x.version) → ((cond b y z).node = x.node ∧ (cond b y z).volume = x.volume ∧ (cond b y z).version = x.version) := fun b y z hy hz => by cases b; exact hz; exact hy
  unfold object_DefaultF
  repeat (first | (with_reducible refine hc _ _ _ ?_ ?_) | exact ⟨rfl, rfl, rfl⟩)
/-- What the attachments that there are ask for. -/
theorem volLF_cases (a : List XObj) (v : Int) (n : ByteArray) : ∀ l : List XObj, (attach_VolumeLF a v n l).2.act ≠ 1 ∨ ∃ o ∈ l, (attach_VolumeLF a v n l).2 = attach_writeF o 9 v ∧ o.node ∉ attach_WantedF a n
  | [] => .inl (by unfold attach_VolumeLF; decide)
  | o :: r => by
    unfold attach_VolumeLF
    cases o.phase == (9 : Int) with
    | true => exact .inl (by show ¬ (3 : Int) = 1; decide)
    | false =>
      rw [cond_false]
      cases h : slices_Contains_string_stringF o.node (attach_WantedF a n) with
      | false =>
        refine .inr ⟨o, List.mem_cons_self, rfl, fun hm => ?_⟩
        rw [(contains_iff _ _).2 hm] at h
        cases h
      | true =>
        rw [Bool.not_true, cond_false]
        cases o.phase == (7 : Int) with
        | true => exact .inl (by show ¬ (3 : Int) = 1; decide)
        | false =>
          rcases volLF_cases a v n r with h | ⟨p, hp, h⟩
          · exact .inl h
          · exact .inr ⟨p, List.mem_cons_of_mem _ hp, h⟩
/-- What is made. -/
def newAtt (n s : ByteArray) : XObj := object_DefaultF ⟨5, ⟨#[]⟩, 0, 0, false, false, ⟨#[]⟩, 0, 0, 0, false, false, ⟨#[]⟩, s, ⟨#[]⟩, n, ⟨#[]⟩, 0, 0, 0⟩
theorem volL1F_cases (a : List XObj) (v : Int) (n : ByteArray) : ∀ l : List ByteArray, ((attach_VolumeL1F a v n l).1 = true) ∨ ∃ s ∈ l, (attach_VolumeL1F a v n l).2 = attach_writeF (newAtt n s) 7 v
  | [] => .inl rfl
  | s :: r => by
    unfold attach_VolumeL1F
    cases api_ObjectF (attach_AttachmentsF a n) s with
    | true =>
      rcases volL1F_cases a v n r with h | ⟨p, hp, h⟩
      · exact .inl h
      · exact .inr ⟨p, List.mem_cons_of_mem _ hp, h⟩
    | false =>
      rw [cond_false]
      generalize (!(object_NameF ((object_DefaultF (⟨(5 : Int), (⟨#[]⟩ : ByteArray), (0 : Int), (0 : Int), false, false, (⟨#[]⟩ : ByteArray), (0 : Int), (0 : Int), (0 : Int), false, false, (⟨#[]⟩ : ByteArray), s, (⟨#[]⟩ : ByteArray), n, (⟨#[]⟩ : ByteArray), (0 : Int), (0 : Int), (0 : Int)⟩ : XObj)).name))) = b
      cases b with
      | true => exact .inl rfl
      | false => exact .inr ⟨s, List.mem_cons_self, rfl⟩
theorem vol_cases (a : List XObj) (v : Int) (n : ByteArray) : (attach_VolumeF a v n).act ≠ 1
    ∨ (∃ o ∈ attach_AttachmentsF a n, attach_VolumeF a v n = attach_writeF o 9 v ∧ o.node ∉ attach_WantedF a n)
    ∨ (∃ s ∈ attach_WantedF a n, attach_VolumeF a v n = attach_writeF (newAtt n s) 7 v ∧ ¬ ((attach_getF a 4 n).1.mode = 1 ∧ 0 < (attach_AttachmentsF a n).length) ∧ (attach_getF a 4 n).2 = true) := by
  unfold attach_VolumeF
  cases hg : (attach_getF a 4 n).2 with
  | false => exact .inl (by show ¬ (0 : Int) = 1; decide)
  | true =>
    rw [Bool.not_true, cond_false]
    cases h1 : (attach_VolumeLF a v n (attach_AttachmentsF a n)).1 with
    | true =>
      rw [cond_true]
      rcases volLF_cases a v n (attach_AttachmentsF a n) with h | h
      · exact .inl h
      · exact .inr (.inl h)
    | false =>
      rw [cond_false]
      cases h2 : cond (!((((attach_getF a (4 : Int) n).1).phase) == (3 : Int))) true (cond ((((attach_getF a (4 : Int) n).1).mode) == (1 : Int)) (decide (((attach_AttachmentsF a n).length : Int) > (0 : Int))) false) with
      | true => exact .inl (by show ¬ (0 : Int) = 1; decide)
      | false =>
        rw [cond_false]
        cases h3 : (attach_VolumeL1F a v n (attach_WantedF a n)).1 with
        | true => exact .inl (by show ¬ (0 : Int) = 1; decide)
        | false =>
          rw [cond_false]
          rcases volL1F_cases a v n (attach_WantedF a n) with h | ⟨s, hs, h⟩
          · rw [h] at h3; cases h3
          · refine .inr (.inr ⟨s, hs, h, ?_, rfl⟩)
            rintro ⟨k1, k2⟩
            rw [k1, decide_eq_true (show ((attach_AttachmentsF a n).length : Int) > 0 by omega)] at h2
            revert h2
            cases (!((attach_getF a (4 : Int) n).1.phase == (3 : Int))) <;> simp
theorem attachWanted (l : List XObj) (v : Int) (n : ByteArray) : w13_AttachWantedF l v n = true := by
  unfold w13_AttachWantedF
  rw [live_true]
  rcases vol_cases (w13_fewF l) v n with h | ⟨o, ho, h, h2⟩ | ⟨s, hs, h, _, _⟩
  · have : ((attach_VolumeF (w13_fewF l) v n).act == (1 : Int)) = false := by simpa using h
    rw [this]; rfl
  · have hw : w13_AttachWantedLF l v n (attach_WantedF (w13_fewF l) n) false = false := by
      cases q : w13_AttachWantedLF l v n (attach_WantedF (w13_fewF l) n) false with
      | false => rfl
      | true =>
        rcases (wantLF_iff l v n _ _).1 q with q | q
        · cases q
        · rw [h] at q; exact absurd q h2
    rw [hw, h]
    show cond (!((1 : Int) == 1)) true (cond ((9 : Int) == 7) _ (cond ((9 : Int) == 9) (cond (cond true (!false) false) (IntKind.u64.wrap (v + 1) == IntKind.u64.wrap (v + 1)) false) false)) = true
    simp
  · have hk := default_keeps ⟨5, ⟨#[]⟩, 0, 0, false, false, ⟨#[]⟩, 0, 0, 0, false, false, ⟨#[]⟩, s, ⟨#[]⟩, n, ⟨#[]⟩, 0, 0, 0⟩
    have hw : w13_AttachWantedLF l v n (attach_WantedF (w13_fewF l) n) false = true := by
      refine (wantLF_iff l v n _ _).2 (.inr ?_)
      rw [h]
      show (newAtt n s).node ∈ _
      rw [show (newAtt n s).node = s from hk.1]
      exact hs
    rw [hw, h]
    show cond (!((1 : Int) == 1)) true (cond ((7 : Int) == 7) (cond (cond (cond true true false) (decide ((newAtt n s).volume = n)) false) (IntKind.u64.wrap (v + 1) == IntKind.u64.wrap (v + 1)) false) _) = true
    rw [show (newAtt n s).volume = n from hk.2.1]
    simp
end Go.Proofs.Ytbcnehpndoghcaa
