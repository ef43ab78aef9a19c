/- Leases: LeaseGives, the plain law. -/
import Derived.Test.YtofimhodpemmiaaGives
import Derived.Test.YtofimhodpemmiaaSame
namespace Go.Proofs.Ytofimhodpemmiaa
open Go Go.Eng
theorem gives_true (lh : ByteArray) (lu lt : Int) (xw : ByteArray) (xn xs : Int) (yw : ByteArray) (yn ys : Int) : givesF lh lu lt xw xn xs yw yn ys = true := by
  unfold givesF
  rw [live_true]
  cases hr : cond (decide (lh = (⟨#[]⟩ : ByteArray))) true (!(decide (lh = xw))) with
  | true =>
    have : relF lh lu lt xw = ((⟨#[]⟩ : ByteArray), (0 : Int), (0 : Int), (8 : Int)) := by simp only [relF, hr, cond_true]
    rw [this]
    rfl
  | false =>
    have : relF lh lu lt xw = ((⟨#[]⟩ : ByteArray), (0 : Int), lt, (0 : Int)) := by simp only [relF, hr, cond_false]
    rw [this]
    by_cases h0 : (tryF (⟨#[]⟩ : ByteArray) 0 lt yw yn ys).2.2.2 = 0
    · obtain ⟨_, _, _, _, h⟩ := try_ok h0
      rcases h with ⟨_, h⟩ | ⟨⟨h, _⟩, _⟩
      · simp [h, mineF]
      · exact absurd rfl h
    · obtain ⟨k, hk, h8⟩ := try_no h0
      have : k ≠ 8 := fun h => (h8 h).1 rfl
      rw [hk] at h0 ⊢
      have hk0 : k ≠ 0 := h0
      simp [mineF, this, hk0]
end Go.Proofs.Ytofimhodpemmiaa
