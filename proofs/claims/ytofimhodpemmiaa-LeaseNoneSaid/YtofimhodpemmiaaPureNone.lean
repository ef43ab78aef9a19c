/- Leases: LeaseNone, the plain law. -/
import Derived.Test.YtofimhodpemmiaaNoneL
namespace Go.Proofs.Ytofimhodpemmiaa
open Go Go.Eng
theorem nonel_true (x : Int) : nonelF x = true := by
  unfold nonelF
  rw [live_true]
  rfl
end Go.Proofs.Ytofimhodpemmiaa
