/- The calls, plainly: another client with the same. -/
import Derived.Test.YtkledlcmhbjadaaGreatDPLV
import Derived.Test.YtkledlcmhbjadaaGreatDCallF
set_option linter.unusedVariables false
set_option linter.unusedSimpArgs false
set_option maxRecDepth 100000
namespace Go.Proofs.YtkledlcmhbjadaaGreat
open Go Go.Eng
section
variable {k : Nat} {p : LK} {b1 : LA} {b2 : LB} {b3 : LC} {b4 : LD}
theorem Z110 (h : PC k p b1 b2 b3 b4) : PC k (Z13 p b1 b2 b3 b4).1 (Z13 p b1 b2 b3 b4).2.1 (Z13 p b1 b2 b3 b4).2.2.1 (Z13 p b1 b2 b3 b4).2.2.2.1 (Z13 p b1 b2 b3 b4).2.2.2.2 := h
end
end Go.Proofs.YtkledlcmhbjadaaGreat
