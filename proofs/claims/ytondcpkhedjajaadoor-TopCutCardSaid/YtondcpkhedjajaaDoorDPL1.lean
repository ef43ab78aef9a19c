/- Data: plain laws: the program's answer and the document's are one. -/
import Derived.Test.YtondcpkhedjajaaDoorDLive
set_option linter.unusedVariables false
set_option linter.unusedSimpArgs false
set_option maxRecDepth 100000
namespace Go.Proofs.YtondcpkhedjajaaDoor
open Go Go.Eng
theorem mget_mset_bool (x y : ByteArray) (b : Bool) : ∀ es : List (ByteArray × Bool), mget (k := .str) (v := .bool) (mset (k := .str) (v := .bool) es x b) y = if y = x then some b else mget (k := .str) (v := .bool) es y
  | [] => by
    by_cases h : y = x <;> simp [mset, mget, Kind.eqb, h]
  | e :: r => by
    have ih := mget_mset_bool x y b r
    by_cases h : x = e.1
    · subst h
      by_cases h2 : y = e.1 <;> simp [mset, mget, Kind.eqb, h2]
    · by_cases h2 : y = e.1
      · subst h2
        have h3 : ¬ e.1 = x := fun q => h q.symm
        simp [mset, mget, Kind.eqb, h, h3]
      · simp [mset, mget, Kind.eqb, h, h2]; simpa [Kind.eqb] using ih
theorem data_get_uniq (l : List XObj) (k : Int) (n : ByteArray) : data_getF (r12_UniqF l) k n = data_getF l k n := by rw [← r12_Get_eq, r12_Uniq_get]
theorem data_getLF_cons (k : Int) (n : ByteArray) (o : XObj) (r : List XObj) : data_getLF k n (o :: r) = if o.kind = k ∧ o.name = n then (true, o) else data_getLF k n r := by
  conv => lhs; unfold data_getLF
  by_cases h1 : o.kind = k
  · by_cases h2 : o.name = n <;> simp [h1, h2]
  · have : (o.kind == k) = false := by simpa using h1
    rw [this]; simp [h1]
/-- A claim that is being made of src. -/
def making (src : ByteArray) (p : Bool × XObj) : Prop := p.1 = true ∧ p.2.phase = 2 ∧ p.2.source = src
theorem restoredLF_iff (src : ByteArray) : ∀ (l : List XObj) (m : List (ByteArray × Bool)), data_restoredLF src l m = true ↔ ∃ nm, (mget (k := .str) (v := .bool) m nm).getD default = false ∧ making src (data_getLF 3 nm l)
  | [], m => by
    unfold data_restoredLF
    simp [making, data_getLF]
  | o :: r, m => by
    unfold data_restoredLF
    by_cases h1 : o.kind = 3
    · cases h2 : (mget (k := .str) (v := .bool) m o.name).getD default with
      | true =>
        simp only [h1, beq_self_eq_true, Bool.not_true, cond_false, cond_true]
        rw [restoredLF_iff src r m]
        constructor
        · rintro ⟨nm, a, b⟩
          refine ⟨nm, a, ?_⟩
          rw [data_getLF_cons, if_neg]; exact b
          rintro ⟨_, rfl⟩; rw [h2] at a; cases a
        · rintro ⟨nm, a, b⟩
          refine ⟨nm, a, ?_⟩
          rw [data_getLF_cons, if_neg] at b; exact b
          rintro ⟨_, rfl⟩; rw [h2] at a; cases a
      | false =>
        simp only [h1, beq_self_eq_true, Bool.not_true, cond_false]
        by_cases h3 : o.phase = 2 ∧ o.source = src
        · simp only [h3.1, h3.2, beq_self_eq_true, decide_true, cond_true, true_iff]
          exact ⟨o.name, h2, by rw [data_getLF_cons, if_pos ⟨h1, rfl⟩]; exact ⟨rfl, h3.1, h3.2⟩⟩
        · have h4 : (cond (o.phase == 2) (decide (o.source = src)) false) = false := by
            by_cases q1 : o.phase = 2 <;> by_cases q2 : o.source = src <;> simp_all
          rw [h4, cond_false, restoredLF_iff src r]
          constructor
          · rintro ⟨nm, a, b⟩
            rw [mget_mset_bool] at a
            by_cases q : nm = o.name
            · rw [if_pos q] at a; cases a
            · rw [if_neg q] at a
              exact ⟨nm, a, by rw [data_getLF_cons, if_neg fun e => q e.2.symm]; exact b⟩
          · rintro ⟨nm, a, b⟩
            by_cases q : nm = o.name
            · rw [data_getLF_cons, if_pos ⟨h1, q.symm⟩] at b
              exact absurd ⟨b.2.1, b.2.2⟩ h3
            · rw [data_getLF_cons, if_neg fun e => q e.2.symm] at b
              exact ⟨nm, by rw [mget_mset_bool, if_neg q]; exact a, b⟩
    · have : (!(o.kind == 3)) = true := by simpa using h1
      rw [this, cond_true, cond_true, restoredLF_iff src r m]
      constructor
      · rintro ⟨nm, a, b⟩; exact ⟨nm, a, by rw [data_getLF_cons, if_neg fun e => h1 e.1]; exact b⟩
      · rintro ⟨nm, a, b⟩; exact ⟨nm, a, by rw [data_getLF_cons, if_neg fun e => h1 e.1] at b; exact b⟩
theorem restored_iff (l : List XObj) (src : ByteArray) : data_restoredF l src = true ↔ ∃ nm, making src (data_getLF 3 nm l) := by
  unfold data_restoredF
  have : ∀ b : Bool, (cond b true false) = b := by decide
  rw [this, restoredLF_iff]
  exact ⟨fun ⟨nm, _, h⟩ => ⟨nm, h⟩, fun ⟨nm, h⟩ => ⟨nm, rfl, h⟩⟩
theorem uniq_own : ∀ (l v : List XObj), (∀ x ∈ v, data_getLF x.kind x.name v = (true, x)) → ∀ o ∈ r12_UniqLF l v, data_getLF o.kind o.name (r12_UniqLF l v) = (true, o)
  | [], v, h => h
  | x :: r, v, h => by
    unfold r12_UniqLF
    cases hc : (!((r12_GetF v (x.kind) (x.name)).2)) with
    | false => exact uniq_own r v h
    | true =>
      refine uniq_own r (v ++ [x]) fun y hy => ?_
      rw [r12_Get_eq] at hc
      have hn : (data_getLF x.kind x.name v).1 = false := by simpa [data_getF] using hc
      rcases List.mem_append.1 hy with hy | hy
      · rw [data_getLF_append, h y hy]; rfl
      · simp only [List.mem_singleton] at hy
        subst hy
        rw [data_getLF_append, hn, cond_false, data_getLF_cons, if_pos ⟨rfl, rfl⟩]
theorem snapLF_iff (src : ByteArray) : ∀ l : List XObj, r14_SnapshotLF src l = true ↔ ∃ o ∈ l, o.kind = 3 ∧ o.phase = 2 ∧ o.source = src
  | [] => by simp [r14_SnapshotLF]
  | o :: r => by
    unfold r14_SnapshotLF
    have ih := snapLF_iff src r
    by_cases h : o.kind = 3 ∧ o.phase = 2 ∧ o.source = src
    · simp [h]
    · have : (cond (cond (o.kind == 3) (o.phase == 2) false) (decide (o.source = src)) false) = false := by
        by_cases q1 : o.kind = 3 <;> by_cases q2 : o.phase = 2 <;> by_cases q3 : o.source = src <;> simp_all
      rw [this, cond_false, ih]
      simp only [List.mem_cons, exists_eq_or_imp]
      constructor
      · exact .inr
      · rintro (q | q)
        · exact absurd q h
        · exact q
theorem getLF_found (k : Int) (n : ByteArray) : ∀ l : List XObj, (data_getLF k n l).1 = true → (data_getLF k n l).2 ∈ l ∧ (data_getLF k n l).2.kind = k ∧ (data_getLF k n l).2.name = n
  | [], h => by simp [data_getLF] at h
  | o :: r, h => by
    rw [data_getLF_cons] at h ⊢
    by_cases q : o.kind = k ∧ o.name = n
    · rw [if_pos q]; exact ⟨List.mem_cons_self, q⟩
    · rw [if_neg q] at h ⊢
      obtain ⟨a, b⟩ := getLF_found k n r h
      exact ⟨List.mem_cons_of_mem _ a, b⟩
theorem getLF_uniq (l : List XObj) (k : Int) (n : ByteArray) : data_getLF k n (r12_UniqF l) = data_getLF k n l := by unfold r12_UniqF; rw [r12_UniqLF_get]; rfl
theorem restored_uniq (l : List XObj) (src : ByteArray) : r14_SnapshotLF src (r12_UniqF l) = data_restoredF l src := by
  rw [Bool.eq_iff_iff, snapLF_iff, restored_iff]
  constructor
  · rintro ⟨o, ho, h1, h2, h3⟩
    have := uniq_own l [] (by simp) o ho
    refine ⟨o.name, ?_⟩
    rw [← getLF_uniq, ← h1]
    have e : data_getLF o.kind o.name (r12_UniqF l) = (true, o) := this
    rw [e]; exact ⟨rfl, h2, h3⟩
  · rintro ⟨nm, h1, h2, h3⟩
    rw [← getLF_uniq] at h1 h2 h3
    obtain ⟨a, b, c⟩ := getLF_found 3 nm _ h1
    exact ⟨_, a, b, h2, h3⟩
theorem restored_same (l : List XObj) (src : ByteArray) : data_restoredF (r12_UniqF l) src = data_restoredF l src := by
  rw [Bool.eq_iff_iff, restored_iff, restored_iff]
  simp only [getLF_uniq]
theorem bound_uniq (l : List XObj) (n : ByteArray) : data_boundF (r12_UniqF l) n = data_boundF l n := by unfold data_boundF; simp only [data_get_uniq]
theorem claim_uniq (l : List XObj) (v : Int) (n : ByteArray) : data_ClaimF (r12_UniqF l) v n = data_ClaimF l v n := by unfold data_ClaimF; simp only [bound_uniq]
theorem snap_uniq (l : List XObj) (v : Int) (n : ByteArray) : data_SnapshotF (r12_UniqF l) v n = data_SnapshotF l v n := by unfold data_SnapshotF; simp only [bound_uniq, data_get_uniq, restored_same]
end Go.Proofs.YtondcpkhedjajaaDoor
