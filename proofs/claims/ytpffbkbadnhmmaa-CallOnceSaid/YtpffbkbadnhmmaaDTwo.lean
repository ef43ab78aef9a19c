/- The driver: a deed on both; are both the same? -/
import Derived.Test.YtpffbkbadnhmmaaDPLG
import Derived.Test.YtpffbkbadnhmmaaDRTell
set_option linter.unusedVariables false
set_option linter.unusedSimpArgs false
set_option maxRecDepth 100000
namespace Go.Proofs.Ytpffbkbadnhmmaa
open Go Go.Eng
end Go.Proofs.Ytpffbkbadnhmmaa
