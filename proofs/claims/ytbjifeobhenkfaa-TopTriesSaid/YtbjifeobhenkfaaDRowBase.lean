/- What all rows of the seat need. -/
import Derived.Test.YtbjifeobhenkfaaEE
import Derived.Test.YtbjifeobhenkfaaDH0
import Derived.Test.YtbjifeobhenkfaaRows
import Derived.WalkKit
import Derived.ProofKit
import Derived.OpenShut
import Derived.ShutString
import Derived.ChangeOld
import Derived.Below
import Derived.SizedLaws
import Derived.LaidLaws
import Derived.Stop.LaidErr
set_option linter.unusedVariables false
set_option linter.unusedSimpArgs false
set_option maxRecDepth 100000
namespace Go.Proofs.Ytbjifeobhenkfaa
open Go.ChangeShapes Go.WideShapes Go.ChangeAt Go.RowKit Go.Eng
theorem own : ownKnob Try.prog.godebug = none := by kernel_rfl
theorem laidOut : laidOutB Try.prog = true := by kernel_rfl
theorem enter_ok : Try.pinned.checked.prog.mayEnter = true := by kernel_rfl
theorem lifts_ok : Try.pinned.checked.prog.liftsFinal = Rows.topMarksRow.lifted := by kernel_rfl
theorem make_ok : Try.pinned.checked.prog.make = some Rows.topMarksRow.make := by kernel_rfl
end Go.Proofs.Ytbjifeobhenkfaa
