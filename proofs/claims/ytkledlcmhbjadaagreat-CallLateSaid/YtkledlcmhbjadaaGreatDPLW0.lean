/- The calls, plainly: what sending comes to. -/
import Derived.Test.YtkledlcmhbjadaaGreatDCallAlike
import Derived.Test.YtkledlcmhbjadaaGreatDPLR0
set_option linter.unusedVariables false
set_option linter.unusedSimpArgs false
set_option maxRecDepth 100000
namespace Go.Proofs.YtkledlcmhbjadaaGreat
open Go Go.Eng
section
variable {x : XCall} {o : Int} {p p' : LK} {b1 : LA} {b2 : LB} {b3 : LC} {b4 : LD}
theorem csend_bad (h : Z15 x = false) : Z7 x o p b1 b2 b3 b4 = (errR 2, b1, b2, b3, b4, p) := by
 unfold Z7
 rw [h]
 rfl
theorem csend_0 (h : Z15 x = true) (hl : p.length < 4096) : Z7 x 0 p b1 b2 b3 b4 = ((Z1e x b1 b2 b3 b4).1, (Z1e x b1 b2 b3 b4).2.1, (Z1e x b1 b2 b3 b4).2.2.1, (Z1e x b1 b2 b3 b4).2.2.2.1, (Z1e x b1 b2 b3 b4).2.2.2.2, p ++ [x]) := by
 unfold Z7
 rw [h, decide_eq_false (by omega : ¬ (p.length : Int) ≥ 4096)]
 rfl
theorem csend_2 (h : Z15 x = true) (hl : p.length < 4096) : Z7 x 2 p b1 b2 b3 b4 = (errR 13, (Z1e x b1 b2 b3 b4).2.1, (Z1e x b1 b2 b3 b4).2.2.1, (Z1e x b1 b2 b3 b4).2.2.2.1, (Z1e x b1 b2 b3 b4).2.2.2.2, p ++ [x]) := by
 unfold Z7
 rw [h, decide_eq_false (by omega : ¬ (p.length : Int) ≥ 4096)]
 rfl
theorem calike_self (p p' : LK) : Zaf p p' b1 b2 b3 b4 b1 b2 b3 b4 = true := by
 unfold Zaf
 simp only [Z22, Z63, Z11]
 rw [sameVols_self, sameSnaps_self]
 simp
end
end Go.Proofs.YtkledlcmhbjadaaGreat
