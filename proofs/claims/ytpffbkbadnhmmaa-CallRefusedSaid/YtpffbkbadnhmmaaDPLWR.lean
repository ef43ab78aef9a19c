/- The calls, plainly: the law CallRefused. -/
import Derived.Test.YtpffbkbadnhmmaaDLawCallRefused
import Derived.Test.YtpffbkbadnhmmaaDPLW0
set_option linter.unusedVariables false
set_option linter.unusedSimpArgs false
set_option maxRecDepth 100000
namespace Go.Proofs.Ytpffbkbadnhmmaa
open Go Go.Eng
theorem crefused_true {l : List XDeed2} (hl : ∀ x ∈ l, D2 x) (x : XCall) : Z60 l x = true := by
 unfold Z60
 obtain ⟨p, r, b1, b2, b3, b4, z, v, s, q, e, h⟩ := cplay_ok l hl
 have hp : p.length ≤ 50 := h.2.2.1
 simp only [kCr0, kCr1, kCr2, kCr3, kCr4, kCr5, clive_true, e, Z18, Z44]
 cases hR : Z12 x with
 | false =>
  simp only [csend_bad hR, Z13a]
  simp [errR]
 | true =>
  have hw : IntKind.i64.wrap ((p.length : Int) + 2) = (p.length : Int) + 2 := by rw [IntKind.wrap_i64]; omega
  have h1 : (p ++ [x]).length < 4096 := by simp only [List.length_append, List.length_cons, List.length_nil]; omega
  simp only [csend_1 hR (show p.length < 4096 by omega), csend_3 hR h1, Z13a, hw]
  simp [errR]
end Go.Proofs.Ytpffbkbadnhmmaa
