/- Binding: plain laws: right. -/
import Derived.Test.YtnfmnipckcidlaaDoorDLawG
set_option linter.unusedVariables false
set_option linter.unusedSimpArgs false
set_option maxRecDepth 100000
namespace Go.Proofs.YtnfmnipckcidlaaDoor
open Go Go.Eng
theorem bindRight (a0 : List XObj) (a1 : Int) (a2_0 : Int) (a2_1 : ByteArray) (a2_2 : Int) (a2_3 : ByteArray) (a2_4 : Int) (a2_5 : Int) (a2_6 : ByteArray) (a2_7 : ByteArray) (a2_8 : ByteArray) (a2_9 : Bool) (a2_10 : Int) (a2_11 : Int) (a2_12 : ByteArray) (a2_13 : Int) : w12_BindRightF a0 a1 a2_0 a2_1 a2_2 a2_3 a2_4 a2_5 a2_6 a2_7 a2_8 a2_9 a2_10 a2_11 a2_12 a2_13 = true := by
  unfold w12_BindRightF
  cases hr : w12_rightF (w12_fewF a0) with
  | false => exact live_true
  | true =>
    have hl : ∀ o ∈ w12_fewF a0, r03_RightF o = true := by
      unfold w12_rightF at hr
      refine rightLF _ ?_
      cases q : w12_rightLF (w12_fewF a0) with
      | false => rfl
      | true => rw [q] at hr; cases hr
    have h1 := good_bool (claim_good hl a1 a2_1)
    have h2 := good_bool (volume_good hl a1 a2_1)
    rw [← Claim_eq] at h1
    rw [← Volume_eq] at h2
    rw [live_true, h1, h2]
    simp only [Bool.not_true, cond_false, cond_true]
    generalize w12_askedF (w12_fewF a0) a1 a2_0 a2_1 a2_2 a2_3 a2_4 a2_5 a2_6 a2_7 a2_8 a2_9 a2_10 a2_11 a2_12 a2_13 = c
    by_cases hz : c.zone = (⟨#[]⟩ : ByteArray)
    · rw [decide_eq_true hz]
      cases (!((bind_AfterF (w12_fewF a0) a1 ⟨a2_0, a2_1⟩ c ⟨a2_10, c.size, c.zone, a2_13⟩).act == (1 : Int))) <;> rfl
    · have h3 := good_bool (after_good hl a1 a2_0 a2_1 c a2_10 a2_13 hz)
      rw [decide_eq_false hz]
      revert h3
      generalize bind_AfterF (w12_fewF a0) a1 ⟨a2_0, a2_1⟩ c ⟨a2_10, c.size, c.zone, a2_13⟩ = x
      cases (!(x.act == (1 : Int))) <;> exact fun h => h
end Go.Proofs.YtnfmnipckcidlaaDoor
