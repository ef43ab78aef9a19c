/- The calls, plainly: the law CallPlays. -/
import Derived.Test.YtpffbkbadnhmmaaDLawCallPlays
set_option linter.unusedVariables false
set_option linter.unusedSimpArgs false
set_option maxRecDepth 100000
namespace Go.Proofs.Ytpffbkbadnhmmaa
open Go Go.Eng
theorem cplays_true {l : List XDeed2} (hl : ∀ x ∈ l, D2 x) : Zbc l = true := by
 unfold Zbc
 obtain ⟨p, r, b1, b2, b3, b4, z, v, s, q, e, _⟩ := cplay_ok l hl
 rw [csame_ok (ic_play hl), clive_true, e]
 rfl
end Go.Proofs.Ytpffbkbadnhmmaa
