/- The calls, plainly: another client with the same. -/
import Derived.Test.YtkledlcmhbjadaaGreatDPLV
import Derived.Test.YtkledlcmhbjadaaGreatDCallF
set_option linter.unusedVariables false
set_option linter.unusedSimpArgs false
set_option maxRecDepth 100000
namespace Go.Proofs.YtkledlcmhbjadaaGreat
open Go Go.Eng
section
variable {k : Nat} {p : LK} {b1 : LA} {b2 : LB} {b3 : LC} {b4 : LD}
end
end Go.Proofs.YtkledlcmhbjadaaGreat
