/- The driver, plainly: the law DriverForks. -/
import Derived.Test.YtpffbkbadnhmmaaDLawForks
set_option linter.unusedVariables false
set_option linter.unusedSimpArgs false
set_option maxRecDepth 100000
namespace Go.Proofs.Ytpffbkbadnhmmaa
open Go Go.Eng
theorem forks_true {n0 n1 n2 : Int} (h0 : U8 n0) (h1 : U8 n1) (h2 : U8 n2) (l m : List XDeed) : Z41 n0 n1 n2 l m = true := by
 unfold Z41
 have hi := play_iv h0 h1 h2 l
 obtain ⟨k1, k2⟩ := forksL_ok m 20 0 _ _ _ _ _ _ _ _ rfl (fork_iv h0 h1 h2 l)
 have hp : (Z0 n0 n1 n2 l).1 = true := by
  obtain ⟨b1, b2, b3, b4, z, v, s, q, e, _, _⟩ := play_ok stays_true h0 h1 h2 trivial l
  rw [e]
 rw [live_true, hp, k1, same_ok hi, same_ok k2]
 rfl
end Go.Proofs.Ytpffbkbadnhmmaa
