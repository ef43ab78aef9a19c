/- Leases: LeaseEnds, the plain law. -/
import Derived.Test.YtofimhodpemmiaaEnds
import Derived.Test.YtofimhodpemmiaaEng18
set_option maxRecDepth 100000
namespace Go.Proofs.Ytofimhodpemmiaa
open Go Go.Eng

theorem nameF_ne {w : ByteArray} (h : nameF w = true) : decide (w = (⟨#[]⟩ : ByteArray)) = false := by
  unfold nameF at h
  cases h1 : okFrom w 0 <;> rw [h1] at h
  · cases h
  · simp only [cond_true, Bool.cond_false_right, Bool.and_eq_true, Bool.not_eq_true'] at h
    exact h.1
theorem ends_true (xw : ByteArray) (xn xs at_ : Int) (h1 : 0 ≤ xn) (h2 : 0 ≤ xs) (h3 : 0 ≤ at_) : endsF xw xn xs at_ = true := by
  unfold endsF
  rw [live_true]
  have hsz : (if IntKind.u64.wrap (0 + 1) > 0 then (1 : Int) else 1) = 1 := by split <;> rfl
  cases hn : nameF xw with
  | false => simp [tryF, hn]
  | true =>
    cases hr : cond (cond (decide (xs ≥ (1 : Int))) (decide (xs ≤ (1099511627776 : Int))) false) (decide (xn ≤ (1152921504606846976 : Int))) false with
    | false => simp only [tryF, hn, hr, cond_true, cond_false]; rfl
    | true =>
      have hne := nameF_ne hn
      have ht : tryF (⟨#[]⟩ : ByteArray) (0 : Int) (0 : Int) xw xn xs = (xw, xn + xs, IntKind.u64.wrap (0 + 1), 0) := by
        simp only [Bool.cond_false_right, Bool.and_eq_true, decide_eq_true_eq] at hr
        simp only [tryF, hn, cond_true]
        rw [show (cond (cond (decide (xs ≥ (1 : Int))) (decide (xs ≤ (1099511627776 : Int))) false) (decide (xn ≤ (1152921504606846976 : Int))) false) = true from by simp [hr]]
        simp only [decide_true, cond_true]
        rw [wrap_u64 (by omega) (by omega)]
      simp only [Bool.cond_false_right, Bool.and_eq_true, decide_eq_true_eq] at hr
      rw [ht]
      simp only [mineF, hne, Bool.not_false, cond_true, decide_true]
      rw [wrap_u64 (n := xn + xs) (by omega) (by omega), wrap_u64 (n := xn + xs - 1) (by omega) (by omega)]
      simp
      omega
end Go.Proofs.Ytofimhodpemmiaa
