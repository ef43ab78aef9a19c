/- The calls, plainly: another client of the document with the same; what the laws CallForks and CallLate want. -/
import Derived.Test.YtkledlcmhbjadaaGreatDPLX
import Derived.Test.YtkledlcmhbjadaaGreatDCallRF
import Derived.Test.YtkledlcmhbjadaaGreatDCallAlike
set_option linter.unusedVariables false
set_option linter.unusedSimpArgs false
set_option maxRecDepth 100000
namespace Go.Proofs.YtkledlcmhbjadaaGreat
open Go Go.Eng
theorem PC.lk {k : Nat} {p : LK} {b1 : LA} {b2 : LB} {b3 : LC} {b4 : LD} (h : PC k p b1 b2 b3 b4) : p.length ≤ k := by obtain ⟨_, _, _, _, _, h⟩ := h; exact h.2.2.1
theorem Z121 {a : List XDeed2} (ha : ∀ x ∈ a, D2 x) {i : Nat} (h : decide ((i : Int) < ((Z1a (Z1 a).2.1 (Z1 a).2.2.2.1 (Z1 a).2.2.2.2.1 (Z1 a).2.2.2.2.2.1 (Z1 a).2.2.2.2.2.2.1).length : Int)) = true) : i < (Z1a (Z1 a).2.1 (Z1 a).2.2.2.1 (Z1 a).2.2.2.2.1 (Z1 a).2.2.2.2.2.1 (Z1 a).2.2.2.2.2.2.1).length ∧ i < 50 := by
 have h1 := PC.lk (Zdd ha)
 have h2 := of_decide_eq_true h
 have h3 : (Z1a (Z1 a).2.1 (Z1 a).2.2.2.1 (Z1 a).2.2.2.2.1 (Z1 a).2.2.2.2.2.1 (Z1 a).2.2.2.2.2.2.1).length = (Z1 a).2.1.length := rfl
 omega
end Go.Proofs.YtkledlcmhbjadaaGreat
