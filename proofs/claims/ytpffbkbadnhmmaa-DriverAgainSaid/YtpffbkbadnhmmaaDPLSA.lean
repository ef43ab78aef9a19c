/- The driver, plainly: the law DriverAgain. -/
import Derived.Test.YtpffbkbadnhmmaaDLawAgain
import Derived.Test.YtpffbkbadnhmmaaDPLS0
set_option linter.unusedVariables false
set_option linter.unusedSimpArgs false
set_option maxRecDepth 100000
namespace Go.Proofs.Ytpffbkbadnhmmaa
open Go Go.Eng
theorem again_true {n0 n1 n2 : Int} (h0 : U8 n0) (h1 : U8 n1) (h2 : U8 n2) (l : List XDeed) (c : XCall) : Z4b n0 n1 n2 l c = true := by
 unfold Z4b
 obtain ⟨b1, b2, b3, b4, z, v, s, q, e, _, _⟩ := play_ok stays_true h0 h1 h2 trivial l
 simp only [do_again, live_true, alike_self, e]
 simp
end Go.Proofs.Ytpffbkbadnhmmaa
