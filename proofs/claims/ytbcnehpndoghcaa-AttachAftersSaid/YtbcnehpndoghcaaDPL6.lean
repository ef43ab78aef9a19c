/- Attach: plain laws: what is done behind a call. -/
import Derived.Test.YtbcnehpndoghcaaDPL5
import Derived.Test.YtbcnehpndoghcaaDH7
import Derived.Test.YtbcnehpndoghcaaDLawG
set_option linter.unusedVariables false
set_option linter.unusedSimpArgs false
set_option maxRecDepth 100000
namespace Go.Proofs.Ytbcnehpndoghcaa
open Go Go.Eng
theorem afterLF_found (c : XCall) : ∀ (l : List XObj) (o : XObj), r13_AfterLF c l true o = o
  | [], o => rfl
  | x :: r, o => by
    unfold r13_AfterLF
    exact afterLF_found c r o
theorem afterLF_eq (c : XCall) : ∀ (l : List XObj) (i : Nat), (∃ o ∈ l, o.node = c.node ∧ o.num = c.num) → l.getD ((api_Object_3LF c l i).2 - (i : Int)).toNat default = r13_AfterLF c l false default
  | [], i, h => by obtain ⟨o, h, _⟩ := h; cases h
  | o :: r, i, h => by
    unfold api_Object_3LF r13_AfterLF
    have e : cond (cond (!false) (decide ((o.node) = c.node)) false) ((o.num) == c.num) false = attach_After_1F o c := rfl
    rw [e]
    cases h1 : attach_After_1F o c with
    | true =>
      rw [cond_true, cond_true, afterLF_found]
      show (o :: r).getD ((i : Int) - (i : Int)).toNat default = o
      rw [Int.sub_self]
      rfl
    | false =>
      rw [cond_false, cond_false]
      have h2 : ∃ o ∈ r, o.node = c.node ∧ o.num = c.num := by
        obtain ⟨p, hp, e1, e2⟩ := h
        rcases List.mem_cons.1 hp with rfl | hp
        · unfold attach_After_1F at h1
          rw [e1, e2] at h1
          simp at h1
        · exact ⟨p, hp, e1, e2⟩
      obtain ⟨_, h4, _⟩ := api_Object_3L_in c r (i + 1) h2
      rw [← afterLF_eq c r (i + 1) h2]
      have e3 : ((api_Object_3LF c r (i + 1)).2 - (i : Int)).toNat = ((api_Object_3LF c r (i + 1)).2 - ((i + 1 : Nat) : Int)).toNat + 1 := by omega
      rw [e3]
      rfl
theorem askL_verb (a : List XObj) (v : Int) (n : ByteArray) : ∀ l : List XObj, (attach_VolumeLF a v n l).2.act = 3 → (attach_VolumeLF a v n l).2.call.verb = 4 ∨ (attach_VolumeLF a v n l).2.call.verb = 3
  | [], h => by unfold attach_VolumeLF at h; cases h
  | o :: r, h => by
    unfold attach_VolumeLF at h ⊢
    cases h3 : o.phase == (9 : Int) with
    | true => exact .inl rfl
    | false =>
      rw [h3, cond_false] at h
      rw [cond_false]
      cases h4 : (!(slices_Contains_string_stringF (o.node) (attach_WantedF a n))) with
      | true => rw [h4, cond_true] at h; exact absurd h (by show ¬ (1 : Int) = 3; decide)
      | false =>
        rw [h4, cond_false] at h
        rw [cond_false]
        cases h5 : o.phase == (7 : Int) with
        | true => exact .inr rfl
        | false =>
          rw [h5, cond_false] at h
          rw [cond_false]
          exact askL_verb a v n r h
theorem ask_verb (a : List XObj) (v : Int) (n : ByteArray) (h : (attach_VolumeF a v n).act = 3) : (attach_VolumeF a v n).call.verb = 4 ∨ (attach_VolumeF a v n).call.verb = 3 := by
  unfold attach_VolumeF at h ⊢
  generalize (!((attach_getF a (4 : Int) n).2)) = b1 at h ⊢
  cases b1 with
  | true => exact absurd h (by show ¬ (0 : Int) = 3; decide)
  | false =>
    rw [cond_false] at h ⊢
    cases h1 : (attach_VolumeLF a v n (attach_AttachmentsF a n)).1 with
    | true => rw [h1, cond_true] at h; rw [cond_true]; exact askL_verb a v n _ h
    | false =>
      rw [h1, cond_false] at h
      rw [cond_false]
      generalize cond (!((((attach_getF a (4 : Int) n).1).phase) == (3 : Int))) true (cond ((((attach_getF a (4 : Int) n).1).mode) == (1 : Int)) (decide (((attach_AttachmentsF a n).length : Int) > (0 : Int))) false) = b2 at h ⊢
      cases b2 with
      | true => exact absurd h (by show ¬ (0 : Int) = 3; decide)
      | false =>
        rw [cond_false] at h ⊢
        cases h3 : (attach_VolumeL1F a v n (attach_WantedF a n)).1 with
        | true => rw [h3, cond_true] at h; exact absurd h (by show ¬ (0 : Int) = 3; decide)
        | false =>
          rw [h3, cond_false] at h
          rw [askL1_no a v n _ h3] at h
          cases h
theorem after_eq (a : List XObj) (v : Int) (c : XCall) (r : XRes) (hl : a.length ≤ 64) : attach_AfterF a v c r = r13_AfterF a v c r := by
  unfold attach_AfterF r13_AfterF
  rw [← volume_eq a v c.target hl, ← (atts_both a c.target hl).1]
  cases h : cond (!(((attach_VolumeF a v c.target).act) == (3 : Int))) true (!((((attach_VolumeF a v c.target).call.verb) == c.verb) && ((decide (((attach_VolumeF a v c.target).call.target) = c.target)) && ((((attach_VolumeF a v c.target).call.num) == c.num) && ((((attach_VolumeF a v c.target).call.size) == c.size) && ((decide (((attach_VolumeF a v c.target).call.zone) = c.zone)) && ((decide (((attach_VolumeF a v c.target).call.node) = c.node)) && (decide (((attach_VolumeF a v c.target).call.source) = c.source))))))))) with
  | true => rfl
  | false =>
    rw [cond_false, cond_false]
    have hin := after_in a v c h
    have h1 : (attach_VolumeF a v c.target).act = 3 := by
      cases h1 : (attach_VolumeF a v c.target).act == (3 : Int) with
      | true => simpa using h1
      | false => rw [h1] at h; cases h
    rw [show ((attach_VolumeF a v c.target).act == (3 : Int)) = true by simpa using h1] at h
    simp only [Bool.not_true, cond_false, Bool.not_eq_false', Bool.and_eq_true, beq_iff_eq, decide_eq_true_eq] at h
    obtain ⟨o, ho, e1, e2⟩ := ask_from a v c.target h1
    have hex : ∃ o ∈ attach_AttachmentsF a c.target, o.node = c.node ∧ o.num = c.num := ⟨o, ho, e1.trans h.2.2.2.2.2.1, e2.trans h.2.2.1⟩
    have hx : (attach_AttachmentsF a c.target).getD ((api_Object_3F (attach_AttachmentsF a c.target) c).toNat) default = r13_AfterLF c (attach_AttachmentsF a c.target) false default := by
      have h5 := afterLF_eq c (attach_AttachmentsF a c.target) 0 hex
      obtain ⟨h3, _, _⟩ := api_Object_3L_in c (attach_AttachmentsF a c.target) 0 hex
      rw [← h5]
      unfold api_Object_3F
      rw [h3, cond_true]
      simp
    rw [hx]
    have hv := ask_verb a v c.target h1
    rw [h.1] at hv
    generalize r13_AfterLF c (attach_AttachmentsF a c.target) false default = p
    have hw : attach_writeF p p.phase v = r12_WriteF ({ p with num := (IntKind.u64.wrap (v + (1 : Int))) } : XObj) := rfl
    rw [hw]
    cases r.err == (9 : Int) with
    | true => rfl
    | false =>
      rw [cond_false, cond_false]
      rcases hv with hv | hv
      · rw [hv]
        cases h0 : r.err == (0 : Int) <;> cases r.err == (5 : Int) <;> rfl
      · rw [hv]
        cases h0 : r.err == (0 : Int) with
        | true =>
          rw [show r.err = 0 by simpa using h0]
          rfl
        | false => cases r.err == (5 : Int) <;> rfl
theorem attachAfters (a0 : List XObj) (a1 : Int) (a2_0 : ByteArray) (a2_1 : Int) (a2_2 : ByteArray) (a2_3 : Int) (a2_4 : Int) (a2_5 : ByteArray) (a2_6 : ByteArray) (a2_7 : ByteArray) (a2_8 : Bool) (a2_9 : Int) (a2_10 : Int) (a2_11 : ByteArray) (a2_12 : Int) : w13_AttachAftersF a0 a1 a2_0 a2_1 a2_2 a2_3 a2_4 a2_5 a2_6 a2_7 a2_8 a2_9 a2_10 a2_11 a2_12 = true := by
  have hl : (w13_fewF a0).length ≤ 64 := Nat.le_trans (w13_few_len a0) (by decide)
  unfold w13_AttachAftersF
  rw [live_true, after_eq _ _ _ _ hl, after_eq _ _ _ _ hl]
  cases a2_8 <;> simp
end Go.Proofs.Ytbcnehpndoghcaa
