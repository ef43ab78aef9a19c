/- The calls, plainly: the law CallNone. -/
import Derived.Test.YtpffbkbadnhmmaaDLawCallNone
set_option linter.unusedVariables false
set_option linter.unusedSimpArgs false
set_option maxRecDepth 100000
namespace Go.Proofs.Ytpffbkbadnhmmaa
open Go Go.Eng
theorem cnone_true (x : XDeed2) : Zd2 x = true := by
 unfold Zd2
 rw [clive_true]
 rfl
end Go.Proofs.Ytpffbkbadnhmmaa
