/- Bind: by hand: each once, over a slice of the law's own. -/
import Derived.Test.YtkledlcmhbjadaaGreatDoorDRawOf
set_option linter.unusedVariables false
set_option linter.unusedSimpArgs false
set_option maxRecDepth 100000
namespace Go.Proofs.YtkledlcmhbjadaaGreatDoor
open Go Go.Eng
theorem of2_LF : ∀ (l : List XObj) (m : List (XKey × Bool)) (v : List XObj), Z6a l m v = Z73 l m v
 | [], m, v => rfl
 | o :: r, m, v => by
  unfold Z6a Z73
  rw [of2_LF r, of2_LF r]
theorem of2_eq (l : List XObj) : Z2 l = Z4 l := of2_LF l [] []
theorem of2_len (l : List XObj) (h : l.length ≤ 64) : (Z2 l).length ≤ 64 := by rw [of2_eq]; exact of_len l h
theorem Zc0 (l : List XObj) (h : l.length ≤ 64) : (Z2 l).length < 4611686018427387904 := by rw [of2_eq]; exact Z6d l h
theorem Z2d (l : List XObj) (h : ∀ o ∈ l, o.Fine) : ∀ o ∈ Z2 l, o.Fine := by rw [of2_eq]; exact Z4c l h
end Go.Proofs.YtkledlcmhbjadaaGreatDoor
