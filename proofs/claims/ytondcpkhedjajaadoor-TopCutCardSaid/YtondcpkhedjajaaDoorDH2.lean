/- Data: the world that is told of. -/
import Derived.Test.YtondcpkhedjajaaDoorDWorld
set_option linter.unusedVariables false
set_option linter.unusedSimpArgs false
namespace Go.Proofs.YtondcpkhedjajaaDoor
open Go Go.Eng
theorem w14_world_len (a b : Int) : (w14_worldF a b).length = 3 := rfl
theorem w14_world_lt (a b : Int) {n : Nat} (h : 3 < n) : (w14_worldF a b).length < n := h
theorem w14_world_le (a b : Int) {n : Nat} (h : 3 ≤ n) : (w14_worldF a b).length ≤ n := h
theorem w14_world_fine (a b : Int) : ∀ o ∈ w14_worldF a b, o.Fine := by
  unfold w14_worldF
  simp only [List.mem_cons, List.not_mem_nil, or_false, List.drop_zero, forall_eq_or_imp, forall_eq, XObj.Fine, size_mk]
  decide
end Go.Proofs.YtondcpkhedjajaaDoor
