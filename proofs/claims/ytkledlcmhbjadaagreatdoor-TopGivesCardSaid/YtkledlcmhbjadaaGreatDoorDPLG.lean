/- The law TopGives, plainly: by evaluation. -/
import Derived.Test.YtkledlcmhbjadaaGreatDoorDLawGives
set_option linter.unusedVariables false
set_option linter.unusedSimpArgs false
set_option maxRecDepth 100000
namespace Go.Proofs.YtkledlcmhbjadaaGreatDoor
open Go Go.Eng
theorem gives_true (a : Bool) : t_TopGivesF a = true := by
 unfold t_TopGivesF
 simp only [call_Client_VolumesF, vols_len]
 cases a <;> kernel_rfl
end Go.Proofs.YtkledlcmhbjadaaGreatDoor
