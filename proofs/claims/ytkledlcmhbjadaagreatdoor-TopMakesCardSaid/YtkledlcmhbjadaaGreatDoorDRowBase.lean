/- What all rows of the seat need. -/
import Derived.Test.YtkledlcmhbjadaaGreatDoorEE
import Derived.Test.YtkledlcmhbjadaaGreatDoorDFmt
import Derived.Test.YtkledlcmhbjadaaGreatDoorRows
import Derived.WalkKit
import Derived.ProofKit
import Derived.OpenShut
import Derived.ShutString
import Derived.ChangeOld
import Derived.Below
import Derived.SizedLaws
import Derived.LaidLaws
import Derived.Stop.LaidErr
set_option linter.unusedVariables false
set_option linter.unusedSimpArgs false
set_option maxRecDepth 100000
namespace Go.Proofs.YtkledlcmhbjadaaGreatDoor
open Go.ChangeShapes Go.WideShapes Go.ChangeAt Go.RowKit Go.Eng
theorem own : ownKnob Tryz.prog.godebug = none := by kernel_rfl
theorem laidOut : laidOutB Tryz.prog = true := by kernel_rfl
def laidL : List (String × DataW Unit) := [("math/bits.deBruijn32tab", Rows.laid_math_bits_deBruijn32tab), ("math/bits.deBruijn64tab", Rows.laid_math_bits_deBruijn64tab), ("internal/strconv.uint64pow10", Rows.laid_internal_strconv_uint64pow10)]
def dataCells : DataW Unit → List Value
 | .agg l => l.map fun d => match d with | .lit (.int k n) => Value.int k n | _ => .int .u8 0
 | _ => []
def layAt (h : Array Obj) (g : Nat) (d : DataW Unit) : Array Obj := h.modify g fun
 | .cells _ t frozen => .cells (dataCells d).toArray t frozen
 | o => o
noncomputable def laidWorld (os : Os) : World := { World.holding Tryz.prog os ⟨#[], #[], []⟩ with heap := layAt (layAt (layAt ((World.holding Tryz.prog os ⟨#[], #[], []⟩).heap) 1 Rows.laid_math_bits_deBruijn32tab) 2 Rows.laid_math_bits_deBruijn64tab) 0 Rows.laid_internal_strconv_uint64pow10 }
theorem laid_met (os : Os) (args : Array Value) : laidMet Tryz.prog laidL ((laidWorld os).forCall (fun _ _ => 0) ⟨#[], args, []⟩).memory :=
 laidMet_of_run' 8 (by kernel_rfl) (by kernel_rfl)
theorem globs_of {W : World} (h : laidMet Tryz.prog laidL W) : Globs.G W := by
 have h3 : laidMet Tryz.prog [("internal/strconv.uint64pow10", Lib.tabData .u64 Lib.pow10Tab)] W := h.tail.tail
 exact Lib.tabIs_of_head (g := 0) (t := 147) (e := 28) (n := 20) (by kernel_rfl) (by kernel_rfl) Tryz.underlying147 Tryz.underlying28 (by kernel_rfl) (by kernel_rfl) h3
theorem enter_ok : Tryz.pinned.checked.prog.mayEnter = true := by kernel_rfl
theorem lifts_ok : Tryz.pinned.checked.prog.liftsFinal = Rows.topGivesRow.lifted := by kernel_rfl
theorem make_ok : Tryz.pinned.checked.prog.make = some Rows.topGivesRow.make := by kernel_rfl
end Go.Proofs.YtkledlcmhbjadaaGreatDoor
