/- The document's driver: what it tells, to be read. -/
import Derived.Test.YtpffbkbadnhmmaaDRVols
set_option linter.unusedVariables false
set_option linter.unusedSimpArgs false
set_option maxRecDepth 100000
namespace Go.Proofs.Ytpffbkbadnhmmaa
open Go Go.Eng
end Go.Proofs.Ytpffbkbadnhmmaa
