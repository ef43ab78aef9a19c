/- Topo: by hand: what is printed is short. -/
import Derived.Test.YtbjlmmeabonbpaaDoorDPrint
import Derived.Test.YtbjlmmeabonbpaaDoorDPrintL
import Derived.Test.YtbjlmmeabonbpaaDoorDRPrint
import Derived.Test.YtbjlmmeabonbpaaDoorDH3
set_option linter.unusedVariables false
set_option linter.unusedSimpArgs false
set_option maxRecDepth 100000
namespace Go.Proofs.YtbjlmmeabonbpaaDoor
open Go Go.Eng
theorem topo_PrintF_size (l : List XTerm) (hl : l.length ≤ 4294967296) (hf : ∀ q ∈ l, q.Fine) : (topo_PrintF l).1.size ≤ 2408 := by
  unfold topo_PrintF
  cases h : topo_rightF l with
  | false => exact Nat.zero_le _
  | true => exact print_size l ((right_iff l hl hf).1 h)
theorem topo_PrintLabelsF_size (l : List XLabel) (hl : l.length ≤ 4294967296) : (topo_PrintLabelsF l).1.size ≤ 2408 := by
  unfold topo_PrintLabelsF
  cases h : topo_rightLabelsF l with
  | false => exact Nat.zero_le _
  | true => exact printL_size l ((rightLabels_iff l hl).1 h)
end Go.Proofs.YtbjlmmeabonbpaaDoor
