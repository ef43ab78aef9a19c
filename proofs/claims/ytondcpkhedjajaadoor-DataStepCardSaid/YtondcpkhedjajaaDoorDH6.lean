/- Data: what is looked for is the same over slices of the law's own. -/
import Derived.Test.YtondcpkhedjajaaDoorDRawGet
set_option linter.unusedVariables false
set_option linter.unusedSimpArgs false
set_option maxRecDepth 100000
namespace Go.Proofs.YtondcpkhedjajaaDoor
open Go Go.Eng
theorem data_get_2LF_eq (k : Int) (n : ByteArray) : ∀ l : List XObj, data_get_2LF k n l = data_getLF k n l
  | [] => rfl
  | o :: r => by unfold data_get_2LF data_getLF; rw [data_get_2LF_eq k n r]
theorem data_get_2_eq (k : Int) (n : ByteArray) (l : List XObj) : data_get_2F k n l = ((data_getF l k n).1, (data_getF l k n).2, l) := by
  unfold data_get_2F data_getF
  rw [data_get_2LF_eq]
theorem data_get_2_fine (k : Int) (n : ByteArray) (l : List XObj) (h : ∀ o ∈ l, o.Fine) : (data_get_2F k n l).1.Fine := by rw [data_get_2_eq]; exact data_get_fine l k n h
end Go.Proofs.YtondcpkhedjajaaDoor
