/- Leases: LeaseTries, the plain law. -/
import Derived.Test.YtofimhodpemmiaaTries
import Derived.Test.YtofimhodpemmiaaSame
namespace Go.Proofs.Ytofimhodpemmiaa
open Go Go.Eng
theorem tries_true (lh : ByteArray) (lu lt : Int) (xw : ByteArray) (xn xs : Int) : triesF lh lu lt xw xn xs = true := by
  unfold triesF
  rw [live_true]
  simp only [refF, try_same, rel_same, mine_same, decide_true, beq_self_eq_true, Bool.and_self, cond_true]
end Go.Proofs.Ytofimhodpemmiaa
