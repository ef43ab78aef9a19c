/- Attach: plain laws: of one node there is one. -/
import Derived.Test.YtbcnehpndoghcaaDPL2
import Derived.Test.YtbcnehpndoghcaaDLawB
set_option linter.unusedVariables false
set_option linter.unusedSimpArgs false
set_option maxRecDepth 100000
namespace Go.Proofs.Ytbcnehpndoghcaa
open Go Go.Eng
theorem oneLF_found (n : ByteArray) : ∀ (l : List XObj) (b : Bool) (v : XObj), b = true → w13_AttachOneLF n l b v = (true, v)
  | [], b, v, h => by unfold w13_AttachOneLF; rw [h]
  | o :: r, b, v, h => by
    unfold w13_AttachOneLF
    subst h
    exact oneLF_found n r true v rfl
/-- The first of a key, by another's way of looking: what was seen is no new one. -/
theorem oneLF_eq (n : ByteArray) : ∀ (l : List XObj), w13_AttachOneLF n l false default = ((r12_GetLF 4 n l).1, (r12_GetLF 4 n l).2)
  | [] => rfl
  | o :: r => by
    unfold w13_AttachOneLF r12_GetLF
    cases h : cond (o.kind == (4 : Int)) (decide (o.name = n)) false with
    | true =>
      have : cond (cond (!false) (o.kind == (4 : Int)) false) (decide (o.name = n)) false = true := h
      rw [this, cond_true, cond_true, oneLF_found n r true o rfl]
    | false =>
      have : cond (cond (!false) (o.kind == (4 : Int)) false) (decide (o.name = n)) false = false := h
      rw [this, cond_false, cond_false]
      exact oneLF_eq n r
theorem madeLF_iff (a : List XObj) (v : Int) (n : ByteArray) : ∀ (l : List XObj) (b : Bool), w13_AttachOneL1F a v n l b = true → b = true ∧ ∀ o ∈ l, o.name ≠ (attach_VolumeF (w13_fewF a) v n).obj.name
  | [], b, h => ⟨h, fun o ho => by simp at ho⟩
  | o :: r, b, h => by
    unfold w13_AttachOneL1F at h
    obtain ⟨h1, h2⟩ := madeLF_iff a v n r _ h
    cases b with
    | false => cases h1
    | true =>
      rw [cond_true] at h1
      refine ⟨rfl, fun p hp => ?_⟩
      rcases List.mem_cons.1 hp with rfl | hp
      · simpa using h1
      · exact h2 p hp
theorem key_eqb (x y : XKey) : Kind.eqb .key x y = (x.kind == y.kind && decide (x.name = y.name)) := rfl
theorem mset_cons (e : XKey × Bool) (r : List (XKey × Bool)) (k : XKey) (b : Bool) : mset (k := .key) (v := .bool) (e :: r) k b = if (k.kind == e.1.kind && decide (k.name = e.1.name)) = true then (k, b) :: r else e :: mset (k := .key) (v := .bool) r k b := rfl
theorem mget_cons (e : XKey × Bool) (r : List (XKey × Bool)) (k : XKey) : mget (k := .key) (v := .bool) (e :: r) k = if (k.kind == e.1.kind && decide (k.name = e.1.name)) = true then some e.2 else mget (k := .key) (v := .bool) r k := rfl
theorem mget_mset_key : ∀ (m : List (XKey × Bool)) (k k' : XKey) (b : Bool), mget (k := .key) (v := .bool) (mset (k := .key) (v := .bool) m k b) k' = if (k'.kind == k.kind && decide (k'.name = k.name)) = true then some b else mget (k := .key) (v := .bool) m k'
  | [], k, k', b => rfl
  | e :: r, k, k', b => by
    rw [mset_cons]
    by_cases h : (k.kind == e.1.kind && decide (k.name = e.1.name)) = true
    · rw [if_pos h, mget_cons, mget_cons]
      by_cases h2 : (k'.kind == k.kind && decide (k'.name = k.name)) = true
      · rw [if_pos h2, if_pos h2]
      · rw [if_neg h2, if_neg h2, if_neg]
        intro h3
        simp only [Bool.and_eq_true, beq_iff_eq, decide_eq_true_eq] at h h2 h3
        exact h2 ⟨h3.1.trans h.1.symm, h3.2.trans h.2.symm⟩
    · rw [if_neg h, mget_cons, mget_cons, mget_mset_key r k k' b]
      by_cases h2 : (k'.kind == k.kind && decide (k'.name = k.name)) = true
      · have h3 : ¬ (k'.kind == e.1.kind && decide (k'.name = e.1.name)) = true := by
          intro h3
          simp only [Bool.and_eq_true, beq_iff_eq, decide_eq_true_eq] at h h2 h3
          exact h ⟨h2.1.symm.trans h3.1, h2.2.symm.trans h3.2⟩
        rw [if_pos h2, if_neg h3, if_pos h2]
      · rw [if_neg h2, if_neg h2]
theorem get_itLF_eq (k : Int) (n : ByteArray) : ∀ (l : List XObj) (m : List (XKey × Bool)), (mget (k := .key) (v := .bool) m ⟨k, n⟩).getD default = false → attach_get_itLF k n l m = r12_GetLF k n l
  | [], m, _ => rfl
  | o :: r, m, h => by
    unfold attach_get_itLF r12_GetLF
    cases hm : cond (o.kind == k) (decide (o.name = n)) false with
    | true =>
      have h1 : o.kind = k ∧ o.name = n := by
        cases h3 : o.kind == k <;> rw [h3] at hm
        · cases hm
        · exact ⟨by simpa using h3, by simpa using hm⟩
      have h2 : object_KeyF o = ⟨k, n⟩ := by
        rw [← h1.1, ← h1.2]; rfl
      have h4 : attach_get_rF o k n default false = true := by unfold attach_get_rF; rw [hm]; rfl
      rw [h2, h, h4]
      rfl
    | false =>
      have h4 : attach_get_rF o k n default false = false := by unfold attach_get_rF; rw [hm]; rfl
      have h5 : (mget (k := .key) (v := .bool) (mset (k := .key) (v := .bool) m (object_KeyF o) true) ⟨k, n⟩).getD default = false := by
        rw [mget_mset_key]
        split
        · rename_i hk
          have hk' : (k == o.kind && decide (n = o.name)) = true := hk
          rw [Bool.and_eq_true, beq_iff_eq, decide_eq_true_eq] at hk'
          rw [← hk'.1, ← hk'.2] at hm
          simp at hm
        · exact h
      rw [h4, cond_false, cond_false, get_itLF_eq k n r _ h5]
      cases (!((mget (k := .key) (v := .bool) m (object_KeyF o)).getD default)) <;> rfl
theorem attach_get_eq (l : List XObj) (k : Int) (n : ByteArray) : attach_getF l k n = r12_GetF l k n := by
  unfold attach_getF attach_get_itF r12_GetF
  rw [show attach_firstsF l = l from rfl, get_itLF_eq k n l [] rfl]
  cases (r12_GetLF k n l).1 <;> rfl
theorem act_found (a : List XObj) (v : Int) (n : ByteArray) (h : (attach_VolumeF a v n).act = 1) : (attach_getF a 4 n).2 = true := by
  cases hg : (attach_getF a 4 n).2 with
  | true => rfl
  | false =>
    unfold attach_VolumeF at h
    rw [hg] at h
    exact absurd h (by show ¬ (0 : Int) = 1; decide)
theorem attachOne (l : List XObj) (v : Int) (n : ByteArray) : w13_AttachOneF l v n = true := by
  unfold w13_AttachOneF
  rw [live_true]
  by_cases h1 : (attach_VolumeF (w13_fewF l) v n).act = 1
  · have hf := act_found _ v n h1
    have hf' := hf
    rw [attach_get_eq, r12_Get_eq] at hf'
    have hf2 : (r12_GetLF 4 n (w13_fewF l)).1 = true := hf'
    rw [oneLF_eq, hf2]
    have hb : ((attach_VolumeF (w13_fewF l) v n).act == (1 : Int)) = true := by simpa using h1
    rw [hb]
    simp only [Bool.not_true, cond_false, cond_true]
    rcases vol_cases (w13_fewF l) v n with h | ⟨o, ho, h, h2⟩ | ⟨s, hs, h, h2, _⟩
    · exact absurd h1 h
    · have hm : w13_AttachOneL1F l v n (attach_AttachmentsF (w13_fewF l) n) true = false := by
        cases q : w13_AttachOneL1F l v n (attach_AttachmentsF (w13_fewF l) n) true with
        | false => rfl
        | true => exact absurd (by rw [h]; rfl) ((madeLF_iff l v n _ _ q).2 o ho)
      rw [hm]
      cases (!((attach_VolumeF (w13_fewF l) v n).obj.version == (0 : Int))) <;> simp
    · rw [attach_get_eq, r12_Get_eq] at h2
      have h3 : ¬ ((r12_GetLF 4 n (w13_fewF l)).2.mode = 1 ∧ 0 < (attach_AttachmentsF (w13_fewF l) n).length) := h2
      have h4 : cond (cond (!(w13_AttachOneL1F l v n (attach_AttachmentsF (w13_fewF l) n) true)) true (!(((r12_GetLF 4 n (w13_fewF l)).2.mode) == (1 : Int)))) true (((attach_AttachmentsF (w13_fewF l) n).length : Int) == (0 : Int)) = true := by
        by_cases h5 : (r12_GetLF 4 n (w13_fewF l)).2.mode = 1
        · have h6 : (attach_AttachmentsF (w13_fewF l) n).length = 0 := by
            rcases Nat.eq_zero_or_pos (attach_AttachmentsF (w13_fewF l) n).length with h6 | h6
            · exact h6
            · exact absurd ⟨h5, h6⟩ h3
          rw [h6]
          cases cond (!(w13_AttachOneL1F l v n (attach_AttachmentsF (w13_fewF l) n) true)) true (!(((r12_GetLF 4 n (w13_fewF l)).2.mode) == (1 : Int))) <;> rfl
        · have h6 : ((r12_GetLF 4 n (w13_fewF l)).2.mode == (1 : Int)) = false := by simpa using h5
          rw [h6]
          cases (w13_AttachOneL1F l v n (attach_AttachmentsF (w13_fewF l) n) true) <;> rfl
      rw [h4]
      cases (!((attach_VolumeF (w13_fewF l) v n).obj.version == (0 : Int))) <;> rfl
  · have : ((attach_VolumeF (w13_fewF l) v n).act == (1 : Int)) = false := by simpa using h1
    rw [this]; rfl
end Go.Proofs.Ytbcnehpndoghcaa
