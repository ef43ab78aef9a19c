/- The calls, plainly: what sending comes to. -/
import Derived.Test.YtpffbkbadnhmmaaDCallAlike
import Derived.Test.YtpffbkbadnhmmaaDPLR0
set_option linter.unusedVariables false
set_option linter.unusedSimpArgs false
set_option maxRecDepth 100000
namespace Go.Proofs.Ytpffbkbadnhmmaa
open Go Go.Eng
section
variable {x : XCall} {o : Int} {p p' : LK} {b1 : LA} {b2 : LB} {b3 : LC} {b4 : LD}
theorem csend_bad (h : Z12 x = false) : Z0 x o p b1 b2 b3 b4 = (errR 2, b1, b2, b3, b4, p) := by
 unfold Z0
 rw [h]
 rfl
theorem csend_0 (h : Z12 x = true) (hl : p.length < 4096) : Z0 x 0 p b1 b2 b3 b4 = ((Z1a x b1 b2 b3 b4).1, (Z1a x b1 b2 b3 b4).2.1, (Z1a x b1 b2 b3 b4).2.2.1, (Z1a x b1 b2 b3 b4).2.2.2.1, (Z1a x b1 b2 b3 b4).2.2.2.2, p ++ [x]) := by
 unfold Z0
 rw [h, decide_eq_false (by omega : ¬ (p.length : Int) ≥ 4096)]
 rfl
theorem csend_1 (h : Z12 x = true) (hl : p.length < 4096) : Z0 x 1 p b1 b2 b3 b4 = (errR 10, b1, b2, b3, b4, p ++ [x]) := by
 unfold Z0
 rw [h, decide_eq_false (by omega : ¬ (p.length : Int) ≥ 4096)]
 rfl
theorem csend_2 (h : Z12 x = true) (hl : p.length < 4096) : Z0 x 2 p b1 b2 b3 b4 = (errR 13, (Z1a x b1 b2 b3 b4).2.1, (Z1a x b1 b2 b3 b4).2.2.1, (Z1a x b1 b2 b3 b4).2.2.2.1, (Z1a x b1 b2 b3 b4).2.2.2.2, p ++ [x]) := by
 unfold Z0
 rw [h, decide_eq_false (by omega : ¬ (p.length : Int) ≥ 4096)]
 rfl
theorem csend_3 (h : Z12 x = true) (hl : p.length < 4096) : Z0 x 3 p b1 b2 b3 b4 = (errR 13, b1, b2, b3, b4, p ++ [x]) := by
 unfold Z0
 rw [h, decide_eq_false (by omega : ¬ (p.length : Int) ≥ 4096)]
 rfl
theorem Z13a (p p' : LK) : Ze5 p p' b1 b2 b3 b4 b1 b2 b3 b4 = true := by
 unfold Ze5
 simp only [Z1e, Z5e, Z41]
 rw [sameVols_self, sameSnaps_self]
 simp
end
end Go.Proofs.Ytpffbkbadnhmmaa
