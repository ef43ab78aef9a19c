/- The driver: by hand: maps whose keys may be sorted. -/
import Derived.Test.YtkledlcmhbjadaaGreatDPLA
set_option linter.unusedVariables false
set_option linter.unusedSimpArgs false
set_option maxRecDepth 100000
namespace Go.Proofs.YtkledlcmhbjadaaGreat
open Go Go.Eng
def NK {β : Type} (ns : List (BA × β)) : Prop := (ns.map Prod.fst).length ≤ 1000000 ∧ ∀ k ∈ ns.map Prod.fst, k.size ≤ maxLen
def VB (es : LB) : Prop := NK es ∧ ∀ e ∈ es, NK e.2.nodes
theorem vb_nk {es : LB} (h : VB es) (k : BA) : NK ((vget es k).getD default).nodes := by
 rw [Zcd]
 cases e : aget es k with
 | none => exact ⟨Nat.zero_le _, fun x hx => by cases hx⟩
 | some v => exact h.2 _ (aget_mem e)
theorem gD_memL {α : Type} [Inhabited α] {l : List α} {i : Nat} (h : i < l.length) : l.getD i default ∈ l := Z172 h
theorem vb_some {es : LB} {i : Nat} (h : i < (Z29 (es.map Prod.fst)).length) : (vget es ((Z29 (es.map Prod.fst)).getD i default)).isSome = true := by
 rw [Zcd, Z74]
 exact (Z1d6 _ _).1 (gD_memL h)
theorem Z211 {β : Type} {ns : List (BA × β)} (h : NK ns) : (Z29 (ns.map Prod.fst)).length ≤ 1000000 := by rw [Z232]; exact h.1
end Go.Proofs.YtkledlcmhbjadaaGreat
