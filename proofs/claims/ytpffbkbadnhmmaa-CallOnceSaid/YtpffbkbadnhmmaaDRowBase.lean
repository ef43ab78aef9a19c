/- What all rows of the seat need. -/
import Derived.Test.YtpffbkbadnhmmaaEE
import Derived.Test.YtpffbkbadnhmmaaDH0
import Derived.Test.YtpffbkbadnhmmaaRows
import Derived.WalkKit
import Derived.ProofKit
import Derived.OpenShut
import Derived.ShutString
import Derived.ChangeOld
import Derived.Below
import Derived.SizedLaws
import Derived.LaidLaws
import Derived.Stop.LaidErr
set_option linter.unusedVariables false
set_option linter.unusedSimpArgs false
set_option maxRecDepth 100000
namespace Go.Proofs.Ytpffbkbadnhmmaa
open Go.ChangeShapes Go.WideShapes Go.ChangeAt Go.RowKit Go.Eng
theorem own : ownKnob Try.prog.godebug = none := by kernel_rfl
theorem laidOut : laidOutB Try.prog = true := by kernel_rfl
theorem enter_ok : Try.pinned.checked.prog.mayEnter = true := by kernel_rfl
theorem lifts_ok : Try.pinned.checked.prog.liftsFinal = Rows.driverNoneRow.lifted := by kernel_rfl
theorem make_ok : Try.pinned.checked.prog.make = some Rows.driverNoneRow.make := by kernel_rfl
theorem cs_of {v n s : Int} {t z d o : BA} (h1 : t.size ≤ reachBytes) (h2 : z.size ≤ reachBytes) (h3 : d.size ≤ reachBytes) (h4 : o.size ≤ reachBytes) : CS ⟨v, t, n, s, z, d, o⟩ := by
 have h : reachBytes < 4611686018427387904 := by decide
 exact ⟨Nat.lt_of_le_of_lt h1 h, Nat.lt_of_le_of_lt h2 h, Nat.lt_of_le_of_lt h3 h, Nat.lt_of_le_of_lt h4 h⟩
theorem deeds_cs {l : List XDeed} (w : ∀ a ∈ l, a.Ok) : ∀ a ∈ l, CS a.c := fun a ha => cs_of (w a ha).c_target (w a ha).c_zone (w a ha).c_node (w a ha).c_source
theorem zones_len' {l : LZ} (h : l.length ≤ reachBytes) : l.length < 4611686018427387904 := Nat.lt_of_le_of_lt h (by decide)
theorem zones_names {l : LZ} (w : ∀ a ∈ l, a.Ok) : ∀ a ∈ l, a.name.size < 4611686018427387904 := fun a ha => Nat.lt_of_le_of_lt (w a ha).name (by decide)
end Go.Proofs.Ytpffbkbadnhmmaa
