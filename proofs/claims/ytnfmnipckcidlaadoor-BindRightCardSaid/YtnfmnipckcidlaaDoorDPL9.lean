/- Binding: plain laws: what is written for a right claim or volume is right. -/
import Derived.Test.YtnfmnipckcidlaaDoorDPL8
set_option linter.unusedVariables false
set_option linter.unusedSimpArgs false
set_option maxRecDepth 100000
namespace Go.Proofs.YtnfmnipckcidlaaDoor
open Go Go.Eng
theorem maybe_of {a : ByteArray} (h : r03_NameF a = true) : r03_maybeF a = true := by
  unfold r03_maybeF
  rw [h]
  cases decide (a = (⟨#[]⟩ : ByteArray)) <;> rfl
theorem name_ne {a : ByteArray} (h : r03_NameF a = true) : a ≠ (⟨#[]⟩ : ByteArray) := by
  rintro rfl
  have := ((name_iff _).1 h).2.1
  exact absurd this (by decide)
theorem right_zone {o : XObj} (h : r03_RightF o = true) : r03_maybeF o.zone = true := by
  unfold r03_RightF at h
  simp only [cond_and, cond_or, cond_not, Bool.and_eq_true, Bool.not_eq_true', Bool.or_eq_false_iff, Bool.not_eq_false'] at h
  grind
theorem right_name {o : XObj} (h : r03_RightF o = true) : r03_NameF o.name = true := by
  unfold r03_RightF at h
  simp only [cond_and, cond_or, cond_not, Bool.and_eq_true, Bool.not_eq_true', Bool.or_eq_false_iff, Bool.not_eq_false'] at h
  grind
theorem get_found (k : Int) (n : ByteArray) : ∀ l : List XObj, (r12_GetLF k n l).1 = true → (r12_GetLF k n l).2 ∈ l ∧ (r12_GetLF k n l).2.kind = k ∧ (r12_GetLF k n l).2.name = n
  | [], h => by cases h
  | o :: r, h => by
    unfold r12_GetLF at h ⊢
    cases h2 : cond (o.kind == k) (decide (o.name = n)) false with
    | true =>
      rw [cond_and, Bool.and_eq_true, beq_iff_eq, decide_eq_true_eq] at h2
      exact ⟨List.mem_cons_self, h2⟩
    | false =>
      rw [h2, cond_false] at h
      obtain ⟨h3, h4⟩ := get_found k n r h
      exact ⟨List.mem_cons_of_mem _ h3, h4⟩
theorem get_right {l : List XObj} (hl : ∀ o ∈ l, r03_RightF o = true) {k : Int} {n : ByteArray} (h : (r12_GetF l k n).2 = true) : r03_RightF (r12_GetF l k n).1 = true ∧ (r12_GetF l k n).1.kind = k := by
  rw [r12_Get_eq] at h ⊢
  obtain ⟨h1, h2, _⟩ := get_found k n l h
  exact ⟨hl _ h1, h2⟩
theorem uniq_right {l : List XObj} (hl : ∀ o ∈ l, r03_RightF o = true) : ∀ o ∈ r12_UniqF l, r03_RightF o = true := fun o ho => by
  rcases r12_UniqLF_sub l [] o ho with h | h
  · simp at h
  · exact hl o h
theorem volume_found (c : XObj) : ∀ (l : List XObj) (b : Bool) (v : XObj), (r12_volumeLF c l b v).1 = true → (b = true ∧ (r12_volumeLF c l b v).2 = v) ∨ ((r12_volumeLF c l b v).2 ∈ l ∧ (r12_volumeLF c l b v).2.kind = 4)
  | [], b, v, h => .inl ⟨h, rfl⟩
  | o :: r, b, v, h => by
    unfold r12_volumeLF at h ⊢
    cases h1 : cond (o.kind == (4 : Int)) (decide (o.claim = r12_RefF c)) false with
    | false =>
      rw [h1, cond_false] at h
      rw [cond_false]
      rcases volume_found c r b v h with h | ⟨h, h'⟩
      · exact .inl h
      · exact .inr ⟨List.mem_cons_of_mem _ h, h'⟩
    | true =>
      rw [h1, cond_true] at h
      rw [cond_true]
      have hk : o.kind = 4 := by rw [cond_and, Bool.and_eq_true, beq_iff_eq] at h1; exact h1.1
      cases h2 : cond (!b) true (strLess o.name v.name) with
      | false =>
        rw [h2, cond_false] at h
        rw [cond_false]
        rcases volume_found c r b v h with h | ⟨h, h'⟩
        · exact .inl h
        · exact .inr ⟨List.mem_cons_of_mem _ h, h'⟩
      | true =>
        rw [h2, cond_true] at h
        rw [cond_true]
        rcases volume_found c r true o h with ⟨_, h⟩ | ⟨h, h'⟩
        · exact .inr ⟨by rw [h]; exact List.mem_cons_self, by rw [h]; exact hk⟩
        · exact .inr ⟨List.mem_cons_of_mem _ h, h'⟩
/-- What is written is right. -/
def Good (x : XAct) : Prop := x.act = 1 → r03_RightF x.obj = true
theorem good_default : Good default := fun h => absurd h (by decide)
theorem good_remove (o : XObj) : Good (r12_RemoveF o) := fun h => absurd h (by show ¬ (2 : Int) = 1; decide)
theorem good_ask (c : XCall) : Good (r12_AskF c) := fun h => absurd h (by show ¬ (3 : Int) = 1; decide)
theorem good_write {o : XObj} (h : r03_RightF o = true) : Good (r12_WriteF o) := fun _ => h
theorem good_w3 {o : XObj} (hk : o.kind = 3) (h : R3 o) : Good (r12_WriteF o) := good_write ((right3 o hk).2 h)
theorem good_w4 {o : XObj} (hk : o.kind = 4) (h : R4 o) : Good (r12_WriteF o) := good_write ((right4 o hk).2 h)
theorem Good.cond {b : Bool} {x y : XAct} (hx : b = true → Good x) (hy : b = false → Good y) : Good (cond b x y) := by
  cases b
  · exact hy rfl
  · exact hx rfl
theorem pending_good {l : List XObj} (hl : ∀ o ∈ l, r03_RightF o = true) (v : Int) {c : XObj} (hc : r03_RightF c = true) (hk : c.kind = 3) (hp : c.phase = 1) (hh : decide (r12_HandleF c = (⟨#[]⟩ : ByteArray)) = false) : Good (r12_pendingF l v c) := by
  have r3 := (right3 c hk).1 hc
  have hw : ∀ z : ByteArray, r03_maybeF z = true → Good (r12_WriteF ({ c with zone := z, phase := (2 : Int), num := (IntKind.u64.wrap (v + (1 : Int))) } : XObj)) := fun z hz => by
    refine good_w3 hk ?_
    unfold R3 at r3 ⊢
    dsimp only
    grind
  unfold r12_pendingF
  refine Good.cond (fun h => ?_) (fun _ => ?_)
  · rcases (best_law l c (r12_UniqF l) false default).2.2 h with ⟨h, _⟩ | ⟨o, ho, h1, h2⟩
    · cases h
    · have e : (r12_BestF l c).1 = o := h2
      rw [e]
      have hko : o.kind = 4 := by
        unfold fitB at h1
        simp only [cond_or, Bool.not_eq_true', Bool.or_eq_false_iff, Bool.not_eq_false', beq_iff_eq] at h1
        exact h1.1.1.1.1.1.1
      have r4 := (right4 o hko).1 (uniq_right hl o ho)
      obtain ⟨n1, n2, _⟩ := ref_ok (right_name hc) hh
      have n3 := maybe_of n1
      refine good_w4 hko ?_
      unfold R4 at r4 ⊢
      dsimp only
      grind
  · refine Good.cond (fun _ => good_default) (fun h1 => ?_)
    have g1 : (r12_GetF l 1 c.cls).2 = true := by
      rw [cond_or, Bool.or_eq_false_iff, Bool.not_eq_false'] at h1
      exact h1.1
    refine Good.cond (fun h2 => ?_) (fun _ => ?_)
    · have g2 : (r12_GetF l 2 c.node).2 = true := by
        rw [cond_and, Bool.and_eq_true] at h2
        exact h2.1
      have hz := right_zone (get_right hl g2).1
      refine Good.cond (fun _ => good_default) (fun _ => Good.cond (fun _ => Good.cond (fun _ => good_default) (fun _ => hw _ hz)) (fun _ => hw _ hz))
    · have hz := right_zone (get_right hl g1).1
      refine Good.cond (fun _ => good_default) (fun _ => Good.cond (fun _ => Good.cond (fun _ => good_default) (fun _ => hw _ hz)) (fun _ => hw _ hz))
theorem claim_good {l : List XObj} (hl : ∀ o ∈ l, r03_RightF o = true) (v : Int) (n : ByteArray) : Good (r12_ClaimF l v n) := by
  have hu := uniq_right hl
  unfold r12_ClaimF
  refine Good.cond (fun _ => good_default) (fun h0 => ?_)
  rw [cond_or, Bool.or_eq_false_iff, Bool.not_eq_false'] at h0
  obtain ⟨h0, hh⟩ := h0
  obtain ⟨hc, hk⟩ := get_right hu h0
  generalize (r12_GetF (r12_UniqF l) 3 n).1 = c at *
  have r3 := (right3 c hk).1 hc
  refine Good.cond (fun _ => Good.cond (fun _ => good_remove _) (fun _ => good_default)) (fun _ => ?_)
  refine Good.cond (fun h1 => ?_) (fun _ => ?_)
  · rw [volume_eq] at h1 ⊢
    rcases volume_found c (r12_UniqF l) false default h1 with ⟨h, _⟩ | ⟨h2, h3⟩
    · cases h
    · have r4 := (right4 _ h3).1 (hu _ h2)
      generalize (r12_volumeLF c (r12_UniqF l) false default).2 = w at *
      have m := maybe_of r4.1
      have e := name_ne r4.1
      refine good_w3 hk ?_
      unfold R3 at r3 ⊢
      unfold R4 at r4
      dsimp only
      grind
  · refine Good.cond (fun _ => ?_) (fun _ => ?_)
    · refine Good.cond (fun _ => good_remove _) (fun _ => Good.cond (fun h2 => ?_) (fun _ => good_ask _))
      have h2 : c.phase = 2 := by simpa using h2
      refine good_w3 hk ?_
      unfold R3 at r3 ⊢
      dsimp only
      grind
    · refine Good.cond (fun _ => Good.cond (fun _ => Good.cond (fun _ => good_default) (fun _ => good_ask _)) (fun _ => good_ask _)) (fun _ => Good.cond (fun _ => good_default) (fun h1 => pending_good hu v hc hk ?_ hh))
      simpa using h1
theorem volume_good {l : List XObj} (hl : ∀ o ∈ l, r03_RightF o = true) (v : Int) (n : ByteArray) : Good (r12_VolumeF l v n) := by
  have hu := uniq_right hl
  unfold r12_VolumeF
  refine Good.cond (fun _ => good_default) (fun h0 => ?_)
  rw [Bool.not_eq_false'] at h0
  obtain ⟨hc, hk⟩ := get_right hu h0
  have r4 := (right4 _ hk).1 hc
  generalize (r12_GetF (r12_UniqF l) 4 n).1 = c at *
  have hw : ∀ k : Int, Good (r12_WriteF ({ c with phase := (6 : Int), num := k } : XObj)) := fun k => by
    refine good_w4 hk ?_
    unfold R4 at r4 ⊢
    dsimp only
    grind
  refine Good.cond (fun _ => Good.cond (fun _ => good_default) (fun _ => hw _)) (fun _ => Good.cond (fun h3 => ?_) (fun _ => Good.cond (fun _ => Good.cond (fun _ => good_default) (fun _ => good_ask _)) (fun _ => good_default)))
  have h3 : c.phase = 3 := by simpa using h3
  refine Good.cond (fun _ => good_default) (fun _ => Good.cond (fun _ => ?_) (fun _ => hw _))
  refine good_w4 hk ?_
  unfold R4 at r4 ⊢
  dsimp only
  grind
end Go.Proofs.YtnfmnipckcidlaaDoor
