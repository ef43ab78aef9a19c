/- What all rows of the seat need. -/
import Derived.Test.YtkledlcmhbjadaaGreatEE
import Derived.Test.YtkledlcmhbjadaaGreatDPLT
import Derived.Test.YtkledlcmhbjadaaGreatRows
import Derived.WalkKit
import Derived.ProofKit
import Derived.OpenShut
import Derived.ShutString
import Derived.ChangeOld
import Derived.Below
import Derived.SizedLaws
import Derived.LaidLaws
import Derived.Stop.LaidErr
set_option linter.unusedVariables false
set_option linter.unusedSimpArgs false
set_option maxRecDepth 100000
namespace Go.Proofs.YtkledlcmhbjadaaGreat
open Go.ChangeShapes Go.WideShapes Go.ChangeAt Go.RowKit Go.Eng
theorem own : ownKnob Tryz.prog.godebug = none := by kernel_rfl
theorem laidOut : laidOutB Tryz.prog = true := by kernel_rfl
theorem enter_ok : Tryz.pinned.checked.prog.mayEnter = true := by kernel_rfl
theorem lifts_ok : Tryz.pinned.checked.prog.liftsFinal = Rows.callLateRow.lifted := by kernel_rfl
theorem make_ok : Tryz.pinned.checked.prog.make = some Rows.callLateRow.make := by kernel_rfl
theorem cs_of {v n s : Int} {t z d o : BA} (h1 : t.size ≤ reachBytes) (h2 : z.size ≤ reachBytes) (h3 : d.size ≤ reachBytes) (h4 : o.size ≤ reachBytes) : CS ⟨v, t, n, s, z, d, o⟩ := by
 have h : reachBytes < 4611686018427387904 := by decide
 exact ⟨Nat.lt_of_le_of_lt h1 h, Nat.lt_of_le_of_lt h2 h, Nat.lt_of_le_of_lt h3 h, Nat.lt_of_le_of_lt h4 h⟩
theorem Z2a3 {l : List XDeed2} (w : ∀ a ∈ l, a.Ok) : ∀ a ∈ l, D2 a := fun a ha => ⟨cs_of (w a ha).c_target (w a ha).c_zone (w a ha).c_node (w a ha).c_source, (wf_u8 (w a ha).o).1⟩
theorem deeds_len {l : List XDeed2} (h : l.length ≤ reachBytes) : l.length < 4611686018427387904 := Nat.lt_of_le_of_lt h (by decide)
end Go.Proofs.YtkledlcmhbjadaaGreat
