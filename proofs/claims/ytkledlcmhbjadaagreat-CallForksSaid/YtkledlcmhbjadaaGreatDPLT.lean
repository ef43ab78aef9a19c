/- The calls, plainly: what both clients hold. -/
import Derived.Test.YtkledlcmhbjadaaGreatDPLH
set_option linter.unusedVariables false
set_option linter.unusedSimpArgs false
set_option maxRecDepth 100000
namespace Go.Proofs.YtkledlcmhbjadaaGreat
open Go Go.Eng
def D2 (x : XDeed2) : Prop := CS x.c ∧ 0 ≤ x.o
def IC (n : Nat) (p r : LK) (b1 : LA) (b2 : LB) (b3 : LC) (b4 : LD) (z : LZ) (v : LV) (s : LS) (q : LQ) : Prop :=
 IV n b1 b2 b3 b4 z v s q ∧ r = p ∧ p.length ≤ n ∧ ∀ x ∈ p, CS x
section
variable {n m : Nat} {p r : LK} {b1 : LA} {b2 : LB} {b3 : LC} {b4 : LD} {z : LZ} {v : LV} {s : LS} {q : LQ}
theorem IC.mono (h : IC n p r b1 b2 b3 b4 z v s q) (hm : n ≤ m) : IC m p r b1 b2 b3 b4 z v s q := ⟨h.1.mono hm, h.2.1, Nat.le_trans h.2.2.1 hm, h.2.2.2⟩
theorem ic_p (h : IC 1000 p r b1 b2 b3 b4 z v s q) : p.length ≤ 1000000 := Nat.le_trans h.2.2.1 (by omega)
theorem ic_q (h : IC 1000 p r b1 b2 b3 b4 z v s q) : r.length ≤ 1000000 := by rw [h.2.1]; exact ic_p h
theorem ic_r (h : IC n p r b1 b2 b3 b4 z v s q) : ∀ x ∈ r, CS x := by rw [h.2.1]; exact h.2.2.2
end
end Go.Proofs.YtkledlcmhbjadaaGreat
