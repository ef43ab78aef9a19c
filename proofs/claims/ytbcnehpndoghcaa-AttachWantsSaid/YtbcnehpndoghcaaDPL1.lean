/- Attach: plain laws: the live world. -/
import Derived.Test.YtbcnehpndoghcaaDLawC
set_option linter.unusedVariables false
set_option linter.unusedSimpArgs false
set_option maxRecDepth 100000
namespace Go.Proofs.Ytbcnehpndoghcaa
open Go Go.Eng
theorem live_true : w13_liveF = true := by kernel_rfl
end Go.Proofs.Ytbcnehpndoghcaa
