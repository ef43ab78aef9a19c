/- Leases: LeaseOne, the plain law. -/
import Derived.Test.YtofimhodpemmiaaOneL
namespace Go.Proofs.Ytofimhodpemmiaa
open Go Go.Eng
theorem onel_true (l : List XAsk) : onelF l = true := by
  unfold onelF
  exact live_true
end Go.Proofs.Ytofimhodpemmiaa
