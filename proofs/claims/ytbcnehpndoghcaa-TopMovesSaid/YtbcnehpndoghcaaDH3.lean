/- Attach: by hand: the name of what is made. -/
import Derived.Test.YtbcnehpndoghcaaDDef
set_option linter.unusedVariables false
set_option linter.unusedSimpArgs false
set_option maxRecDepth 100000
namespace Go.Proofs.Ytbcnehpndoghcaa
open Go Go.Eng
theorem attF_size (a b : ByteArray) : (attF a b).size = a.size + 1 + b.size := by
  unfold attF
  simp [ByteArray.size_append]
  rfl
theorem default_name {x : XObj} (h : x.Fine) : (object_DefaultF x).name.size < 4611686018427387904 := by
  have hc : ∀ (b : Bool) (x y : XObj), x.name.size < 4611686018427387904 → y.name.size < 4611686018427387904 → (cond b x y).name.size < 4611686018427387904 := fun b x y hx hy => by cases b; exact hy; exact hx
  have h1 : x.name.size < 4611686018427387904 := Nat.lt_of_le_of_lt h.1 (by decide)
  have h2 : (attF x.volume x.node).size < 4611686018427387904 := by
    rw [attF_size]
    have h3 := h.2.2.2.2.2.1
    have h4 := h.2.2.2.2.2.2.2.1
    omega
  unfold object_DefaultF
  repeat (first | (with_reducible refine hc _ _ _ ?_ ?_) | exact h1 | exact h2)
end Go.Proofs.Ytbcnehpndoghcaa
