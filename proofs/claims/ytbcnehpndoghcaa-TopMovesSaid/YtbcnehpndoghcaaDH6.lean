/- Attach: by hand: a call that is asked is of an attachment. -/
import Derived.Test.YtbcnehpndoghcaaDRVolume
set_option linter.unusedVariables false
set_option linter.unusedSimpArgs false
set_option maxRecDepth 100000
namespace Go.Proofs.Ytbcnehpndoghcaa
open Go Go.Eng
theorem askL_from (a : List XObj) (v : Int) (n : ByteArray) : ∀ l : List XObj, (attach_VolumeLF a v n l).1 = true → (attach_VolumeLF a v n l).2.act = 3 → ∃ o ∈ l, o.node = (attach_VolumeLF a v n l).2.call.node ∧ o.num = (attach_VolumeLF a v n l).2.call.num
  | [], h, _ => by unfold attach_VolumeLF at h; cases h
  | o :: r, h1, h2 => by
    unfold attach_VolumeLF at h1 h2 ⊢
    cases h3 : o.phase == (9 : Int) with
    | true => rw [cond_true]; exact ⟨o, List.mem_cons_self, rfl, rfl⟩
    | false =>
      rw [h3, cond_false] at h1 h2
      rw [cond_false]
      cases h4 : (!(slices_Contains_string_stringF (o.node) (attach_WantedF a n))) with
      | true => rw [h4, cond_true] at h2; exact absurd h2 (by show ¬ (1 : Int) = 3; decide)
      | false =>
        rw [h4, cond_false] at h1 h2
        rw [cond_false]
        cases h5 : o.phase == (7 : Int) with
        | true => rw [cond_true]; exact ⟨o, List.mem_cons_self, rfl, rfl⟩
        | false =>
          rw [h5, cond_false] at h1 h2
          rw [cond_false]
          obtain ⟨p, hp, e⟩ := askL_from a v n r h1 h2
          exact ⟨p, List.mem_cons_of_mem _ hp, e⟩
theorem askL1_no (a : List XObj) (v : Int) (n : ByteArray) : ∀ l : List ByteArray, (attach_VolumeL1F a v n l).1 = false → (attach_VolumeL1F a v n l).2.act = 1
  | [], h => by unfold attach_VolumeL1F at h; cases h
  | s :: r, h => by
    unfold attach_VolumeL1F at h ⊢
    cases h1 : api_ObjectF (attach_AttachmentsF a n) s with
    | true => rw [h1, cond_true] at h; exact askL1_no a v n r h
    | false =>
      rw [h1, cond_false] at h
      rw [cond_false]
      revert h
      generalize (!(object_NameF ((object_DefaultF (⟨(5 : Int), (⟨#[]⟩ : ByteArray), (0 : Int), (0 : Int), false, false, (⟨#[]⟩ : ByteArray), (0 : Int), (0 : Int), (0 : Int), false, false, (⟨#[]⟩ : ByteArray), s, (⟨#[]⟩ : ByteArray), n, (⟨#[]⟩ : ByteArray), (0 : Int), (0 : Int), (0 : Int)⟩ : XObj)).name))) = b
      cases b with
      | true => intro h; cases h
      | false => intro _; rfl
theorem ask_from (a : List XObj) (v : Int) (n : ByteArray) (h : (attach_VolumeF a v n).act = 3) : ∃ o ∈ attach_AttachmentsF a n, o.node = (attach_VolumeF a v n).call.node ∧ o.num = (attach_VolumeF a v n).call.num := by
  unfold attach_VolumeF at h ⊢
  generalize (!((attach_getF a (4 : Int) n).2)) = b1 at h ⊢
  cases b1 with
  | true => exact absurd h (by show ¬ (0 : Int) = 3; decide)
  | false =>
    rw [cond_false] at h ⊢
    cases h1 : (attach_VolumeLF a v n (attach_AttachmentsF a n)).1 with
    | true => rw [h1, cond_true] at h; rw [cond_true]; exact askL_from a v n _ h1 h
    | false =>
      rw [h1, cond_false] at h
      rw [cond_false]
      generalize cond (!((((attach_getF a (4 : Int) n).1).phase) == (3 : Int))) true (cond ((((attach_getF a (4 : Int) n).1).mode) == (1 : Int)) (decide (((attach_AttachmentsF a n).length : Int) > (0 : Int))) false) = b2 at h ⊢
      cases b2 with
      | true => exact absurd h (by show ¬ (0 : Int) = 3; decide)
      | false =>
        rw [cond_false] at h ⊢
        cases h3 : (attach_VolumeL1F a v n (attach_WantedF a n)).1 with
        | true => rw [h3, cond_true] at h; exact absurd h (by show ¬ (0 : Int) = 3; decide)
        | false =>
          rw [h3, cond_false] at h
          rw [askL1_no a v n _ h3] at h
          cases h
end Go.Proofs.Ytbcnehpndoghcaa
