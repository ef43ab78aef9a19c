/- The calls, plainly: another client of the document with the same; what the laws CallForks and CallLate want. -/
import Derived.Test.YtkledlcmhbjadaaGreatDPLX
import Derived.Test.YtkledlcmhbjadaaGreatDCallRF
import Derived.Test.YtkledlcmhbjadaaGreatDCallAlike
set_option linter.unusedVariables false
set_option linter.unusedSimpArgs false
set_option maxRecDepth 100000
namespace Go.Proofs.YtkledlcmhbjadaaGreat
open Go Go.Eng
theorem rFork_id (z : LZ) (v : LV) (s : LS) (q : LQ) : Z25e z v s q = (z, v, s, q) := by
 unfold Z25e
 rw [rVolumes_id]
 rfl
theorem rcFork_id (r : LK) (z : LZ) (v : LV) (s : LS) (q : LQ) : Z259 r z v s q = (r, z, v, s, q) := by
 unfold Z259
 rw [rFork_id]
 rfl
theorem forks_ic {a : List XDeed2} (ha : ∀ x ∈ a, D2 x) : IC (50 + 0) (Z13 (Z1 a).2.1 (Z1 a).2.2.2.1 (Z1 a).2.2.2.2.1 (Z1 a).2.2.2.2.2.1 (Z1 a).2.2.2.2.2.2.1).1 (Z259 (Z1 a).2.2.1 (Z1 a).2.2.2.2.2.2.2.1 (Z1 a).2.2.2.2.2.2.2.2.1 (Z1 a).2.2.2.2.2.2.2.2.2.1 (Z1 a).2.2.2.2.2.2.2.2.2.2).1 (Z13 (Z1 a).2.1 (Z1 a).2.2.2.1 (Z1 a).2.2.2.2.1 (Z1 a).2.2.2.2.2.1 (Z1 a).2.2.2.2.2.2.1).2.1 (Z13 (Z1 a).2.1 (Z1 a).2.2.2.1 (Z1 a).2.2.2.2.1 (Z1 a).2.2.2.2.2.1 (Z1 a).2.2.2.2.2.2.1).2.2.1 (Z13 (Z1 a).2.1 (Z1 a).2.2.2.1 (Z1 a).2.2.2.2.1 (Z1 a).2.2.2.2.2.1 (Z1 a).2.2.2.2.2.2.1).2.2.2.1 (Z13 (Z1 a).2.1 (Z1 a).2.2.2.1 (Z1 a).2.2.2.2.1 (Z1 a).2.2.2.2.2.1 (Z1 a).2.2.2.2.2.2.1).2.2.2.2 (Z259 (Z1 a).2.2.1 (Z1 a).2.2.2.2.2.2.2.1 (Z1 a).2.2.2.2.2.2.2.2.1 (Z1 a).2.2.2.2.2.2.2.2.2.1 (Z1 a).2.2.2.2.2.2.2.2.2.2).2.1 (Z259 (Z1 a).2.2.1 (Z1 a).2.2.2.2.2.2.2.1 (Z1 a).2.2.2.2.2.2.2.2.1 (Z1 a).2.2.2.2.2.2.2.2.2.1 (Z1 a).2.2.2.2.2.2.2.2.2.2).2.2.1 (Z259 (Z1 a).2.2.1 (Z1 a).2.2.2.2.2.2.2.1 (Z1 a).2.2.2.2.2.2.2.2.1 (Z1 a).2.2.2.2.2.2.2.2.2.1 (Z1 a).2.2.2.2.2.2.2.2.2.2).2.2.2.1 (Z259 (Z1 a).2.2.1 (Z1 a).2.2.2.2.2.2.2.1 (Z1 a).2.2.2.2.2.2.2.2.1 (Z1 a).2.2.2.2.2.2.2.2.2.1 (Z1 a).2.2.2.2.2.2.2.2.2.2).2.2.2.2 := by
 obtain ⟨p, r, b1, b2, b3, b4, z, v, s, q, e, h⟩ := cplay_ok a ha
 rw [e, rcFork_id]
 exact h
theorem Z29a {l : List XDeed2} {i : Nat} (h : cond (decide ((i : Int) < (l.length : Int))) (decide ((i : Int) < (20 : Int))) false = true) : i < l.length ∧ i < 20 := by
 simp only [Bool.cond_false_right, Bool.and_eq_true, decide_eq_true_eq] at h
 omega
end Go.Proofs.YtkledlcmhbjadaaGreat
