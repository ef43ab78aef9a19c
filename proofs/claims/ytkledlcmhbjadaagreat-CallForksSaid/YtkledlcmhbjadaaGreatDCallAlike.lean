/- Do two clients hold the same? -/
import Derived.Test.YtkledlcmhbjadaaGreatDPLV
set_option linter.unusedVariables false
set_option linter.unusedSimpArgs false
set_option maxRecDepth 100000
namespace Go.Proofs.YtkledlcmhbjadaaGreat
open Go Go.Eng
end Go.Proofs.YtkledlcmhbjadaaGreat
