/- The calls: what the rows have in common. -/
import Derived.Test.YtpffbkbadnhmmaaDRowBase
import Derived.Test.YtpffbkbadnhmmaaDPLT
set_option linter.unusedVariables false
set_option linter.unusedSimpArgs false
set_option maxRecDepth 100000
namespace Go.Proofs.Ytpffbkbadnhmmaa
open Go Go.Eng Go.RowKit
theorem Z24e {l : List XDeed2} (w : ∀ a ∈ l, a.Ok) : ∀ a ∈ l, D2 a := fun a ha => ⟨cs_of (w a ha).c_target (w a ha).c_zone (w a ha).c_node (w a ha).c_source, (wf_u8 (w a ha).o).1⟩
end Go.Proofs.Ytpffbkbadnhmmaa
