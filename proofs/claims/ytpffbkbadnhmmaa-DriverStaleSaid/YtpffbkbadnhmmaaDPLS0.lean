/- The driver, plainly: two that hold the same. -/
import Derived.Test.YtpffbkbadnhmmaaDAlike
set_option linter.unusedVariables false
set_option linter.unusedSimpArgs false
set_option maxRecDepth 100000
namespace Go.Proofs.Ytpffbkbadnhmmaa
open Go Go.Eng
theorem alike_self (b1 : List (ByteArray × Int)) (b2 : List (ByteArray × XVn)) (b3 : List (ByteArray × XSn)) (b4 : List (XTgt × XDone)) : Z58 b1 b2 b3 b4 b1 b2 b3 b4 = true := by
 unfold Z58
 rw [sameVols_self, sameSnaps_self]
 simp
end Go.Proofs.Ytpffbkbadnhmmaa
