/- Leases: LeaseTerms, the plain law. -/
import Derived.Test.YtofimhodpemmiaaTerms
namespace Go.Proofs.Ytofimhodpemmiaa
open Go Go.Eng
theorem terms_true (l : List XAsk) : termslF l = true := by
  unfold termslF
  exact live_true
end Go.Proofs.Ytofimhodpemmiaa
