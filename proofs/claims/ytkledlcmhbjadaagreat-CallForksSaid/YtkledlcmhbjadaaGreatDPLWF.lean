/- The calls, plainly: the law CallForks. -/
import Derived.Test.YtkledlcmhbjadaaGreatDLawCallForks
set_option linter.unusedVariables false
set_option linter.unusedSimpArgs false
set_option maxRecDepth 100000
namespace Go.Proofs.YtkledlcmhbjadaaGreat
open Go Go.Eng
theorem cforks_true {a m : List XDeed2} (ha : ∀ x ∈ a, D2 x) (hm : ∀ x ∈ m, D2 x) : Z264 a m = true := by
 obtain ⟨h1, h2⟩ := forks_all ha hm
 have h3 := csame_ok (h2.mono (by omega : 70 ≤ 1000))
 have h4 := csame_ok (Z275 ha)
 have h5 : (Z1 a).1 = true := by
  obtain ⟨p, r, b1, b2, b3, b4, z, v, s, q, e, _⟩ := cplay_ok a ha
  rw [e]
 unfold Z264
 simp only [kCf0, kCf3, kFa] at *
 rw [clive_true, h5, h1, h4, h3]
 rfl
end Go.Proofs.YtkledlcmhbjadaaGreat
