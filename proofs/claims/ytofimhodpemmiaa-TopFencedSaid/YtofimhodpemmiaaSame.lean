/- Leases: the program's functions and the document's are the same. -/
import Derived.Test.YtofimhodpemmiaaGuard
import Derived.Test.YtofimhodpemmiaaEng18
set_option maxRecDepth 100000
namespace Go.Proofs.Ytofimhodpemmiaa
open Go Go.Eng

theorem nameF_ne {w : ByteArray} (h : nameF w = true) : decide (w = (⟨#[]⟩ : ByteArray)) = false := by
  unfold nameF at h
  cases h1 : okFrom w 0 <;> rw [h1] at h
  · cases h
  · simp only [cond_true, Bool.cond_false_right, Bool.and_eq_true, Bool.not_eq_true'] at h
    exact h.1
theorem size_zero {w : ByteArray} : w.size = 0 ↔ w = (⟨#[]⟩ : ByteArray) := by
  constructor
  · intro h
    cases w with
    | mk d =>
      have : d.size = 0 := h
      rw [Array.eq_empty_of_size_eq_zero this]
  · intro h
    rw [h]
    rfl
theorem name_same (w : ByteArray) : nameF w = rnameF w := by
  unfold nameF rnameF
  cases okFrom w 0 with
  | false => rfl
  | true =>
    simp only [cond_true]
    have : (!(decide (w = (⟨#[]⟩ : ByteArray)))) = decide ((w.size : Int) ≥ (1 : Int)) := by
      rw [Bool.eq_iff_iff]
      simp only [Bool.not_eq_true', decide_eq_false_iff_not, decide_eq_true_eq]
      rw [← size_zero]
      omega
    rw [this]
theorem mine_same (lh : ByteArray) (lu lt : Int) (w : ByteArray) (n : Int) : mineF lh lu lt w n = rmineF lh lu lt w n := by
  unfold mineF rmineF
  by_cases h : lh = w
  · subst h; rfl
  · simp [h]
theorem rel_same (lh : ByteArray) (lu lt : Int) (w : ByteArray) : relF lh lu lt w = rrelF lh lu lt w := by
  unfold relF rrelF
  by_cases h : lh = w
  · subst h; rfl
  · simp [h]
theorem try_same (lh : ByteArray) (lu lt : Int) (w : ByteArray) (n p : Int) : tryF lh lu lt w n p = rtryF lh lu lt w n p := by
  unfold tryF rtryF
  rw [← name_same]
  cases hn : nameF w with
  | false => rfl
  | true =>
    have hne := nameF_ne hn
    have hne' : w ≠ (⟨#[]⟩ : ByteArray) := by simpa using hne
    simp only [cond_true, Bool.not_true, cond_false]
    by_cases hr : p ≥ 1 ∧ p ≤ 1099511627776 ∧ n ≤ 1152921504606846976
    · have h1 : (cond (cond (decide (p ≥ (1 : Int))) (decide (p ≤ (1099511627776 : Int))) false) (decide (n ≤ (1152921504606846976 : Int))) false) = true := by simp [hr.1, hr.2.1, hr.2.2]
      have h2 : (cond (cond (decide (p < (1 : Int))) true (decide (p > (1099511627776 : Int)))) true (decide (n > (1152921504606846976 : Int)))) = false := by
        simp only [Bool.cond_true_left, Bool.or_eq_false_iff, decide_eq_false_iff_not]
        omega
      rw [h1, h2]
      simp only [cond_true, cond_false]
      unfold rmineF
      rw [hne]
      by_cases hl : lh = w
      · subst hl
        simp only [hne', decide_false, decide_true, Bool.not_false, cond_true, cond_false]
        by_cases hu : n < lu
        · have h3 : ¬ n ≥ lu := by omega
          simp only [hu, h3, decide_true, decide_false, cond_true, cond_false]
          generalize IntKind.u64.wrap (n + p) = x
          by_cases hx : x < lu
          · have : ¬ x > lu := by omega
            simp [hx, this]
          · by_cases hx2 : x > lu
            · simp [hx, hx2]
            · have : x = lu := by omega
              simp [this]
        · have h3 : n ≥ lu := by omega
          simp [hu, h3]
      · by_cases he : lh = (⟨#[]⟩ : ByteArray)
        · subst he
          simp [hl]
        · by_cases hu : n < lu
          · have h3 : ¬ n ≥ lu := by omega
            simp [hl, he, hu, h3]
          · have h3 : n ≥ lu := by omega
            simp [hl, he, hu, h3]
    · have h1 : (cond (cond (decide (p ≥ (1 : Int))) (decide (p ≤ (1099511627776 : Int))) false) (decide (n ≤ (1152921504606846976 : Int))) false) = false := by
        rw [Bool.eq_false_iff]
        intro h
        simp only [Bool.cond_false_right, Bool.and_eq_true, decide_eq_true_eq] at h
        exact hr ⟨h.1.1, h.1.2, h.2⟩
      have h2 : (cond (cond (decide (p < (1 : Int))) true (decide (p > (1099511627776 : Int)))) true (decide (n > (1152921504606846976 : Int)))) = true := by
        simp only [Bool.cond_true_left, Bool.or_eq_true, decide_eq_true_eq]
        omega
      rw [h1, h2]
      rfl
/-- Where it is granted, what it is. -/
theorem try_ok {lh : ByteArray} {lu lt : Int} {w : ByteArray} {n p : Int} (h : (tryF lh lu lt w n p).2.2.2 = 0) :
    nameF w = true ∧ 1 ≤ p ∧ p ≤ 1099511627776 ∧ n ≤ 1152921504606846976 ∧ ((lh = (⟨#[]⟩ : ByteArray) ∨ n ≥ lu) ∧ tryF lh lu lt w n p = (w, IntKind.u64.wrap (n + p), IntKind.u64.wrap (lt + (1 : Int)), 0) ∨
      (lh ≠ (⟨#[]⟩ : ByteArray) ∧ n < lu) ∧ lh = w ∧ tryF lh lu lt w n p = (lh, (if (IntKind.u64.wrap (n + p)) > lu then (IntKind.u64.wrap (n + p)) else lu), lt, 0)) := by
  unfold tryF at h ⊢
  cases hn : nameF w with
  | false => rw [hn] at h; simp at h
  | true =>
    rw [hn] at h
    simp only [cond_true] at h ⊢
    cases hr : cond (cond (decide (p ≥ (1 : Int))) (decide (p ≤ (1099511627776 : Int))) false) (decide (n ≤ (1152921504606846976 : Int))) false with
    | false => rw [hr] at h; simp at h
    | true =>
      rw [hr] at h
      simp only [Bool.cond_false_right, Bool.and_eq_true, decide_eq_true_eq] at hr
      refine ⟨trivial, hr.1.1, hr.1.2, hr.2, ?_⟩
      simp only [cond_true] at h ⊢
      cases hf : cond (decide (lh = (⟨#[]⟩ : ByteArray))) true (decide (n ≥ lu)) with
      | true =>
        simp only [Bool.cond_true_left, Bool.or_eq_true, decide_eq_true_eq] at hf
        exact .inl ⟨hf, rfl⟩
      | false =>
        rw [hf] at h
        simp only [Bool.cond_true_left, Bool.or_eq_false_iff, decide_eq_false_iff_not] at hf
        simp only [cond_false] at h ⊢
        cases hl : decide (lh = w) with
        | false => rw [hl] at h; simp at h
        | true => exact .inr ⟨⟨hf.1, by omega⟩, by simpa using hl, rfl⟩
/-- Where it is not. -/
theorem try_no {lh : ByteArray} {lu lt : Int} {w : ByteArray} {n p : Int} (h : (tryF lh lu lt w n p).2.2.2 ≠ 0) : ∃ k, tryF lh lu lt w n p = ((⟨#[]⟩ : ByteArray), 0, 0, k) ∧ (k = 8 → lh ≠ (⟨#[]⟩ : ByteArray) ∧ n < lu ∧ lh ≠ w) := by
  unfold tryF at h ⊢
  cases hn : nameF w with
  | false => exact ⟨2, rfl, by omega⟩
  | true =>
    rw [hn] at h
    simp only [cond_true] at h ⊢
    cases hr : cond (cond (decide (p ≥ (1 : Int))) (decide (p ≤ (1099511627776 : Int))) false) (decide (n ≤ (1152921504606846976 : Int))) false with
    | false => exact ⟨3, rfl, by omega⟩
    | true =>
      rw [hr] at h
      simp only [cond_true] at h ⊢
      cases hf : cond (decide (lh = (⟨#[]⟩ : ByteArray))) true (decide (n ≥ lu)) with
      | true => rw [hf] at h; simp at h
      | false =>
        rw [hf] at h
        simp only [Bool.cond_true_left, Bool.or_eq_false_iff, decide_eq_false_iff_not] at hf
        simp only [cond_false] at h ⊢
        cases hl : decide (lh = w) with
        | true => rw [hl] at h; simp at h
        | false => exact ⟨8, rfl, fun _ => ⟨hf.1, by omega, by simpa using hl⟩⟩
end Go.Proofs.Ytofimhodpemmiaa
