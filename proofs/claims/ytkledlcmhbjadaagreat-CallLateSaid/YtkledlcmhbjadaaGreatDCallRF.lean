/- The document's client: another one with the same. -/
import Derived.Test.YtkledlcmhbjadaaGreatDCallR
set_option linter.unusedVariables false
set_option linter.unusedSimpArgs false
set_option maxRecDepth 100000
namespace Go.Proofs.YtkledlcmhbjadaaGreat
open Go Go.Eng
end Go.Proofs.YtkledlcmhbjadaaGreat
