/- The driver: by hand: maps whose keys may be sorted. -/
import Derived.Test.YtpffbkbadnhmmaaDPLA
set_option linter.unusedVariables false
set_option linter.unusedSimpArgs false
set_option maxRecDepth 100000
namespace Go.Proofs.Ytpffbkbadnhmmaa
open Go Go.Eng
def NK {β : Type} (ns : List (BA × β)) : Prop := (ns.map Prod.fst).length ≤ 1000000 ∧ ∀ k ∈ ns.map Prod.fst, k.size ≤ maxLen
def VB (es : LB) : Prop := NK es ∧ ∀ e ∈ es, NK e.2.nodes
theorem vb_nk {es : LB} (h : VB es) (k : BA) : NK ((vget es k).getD default).nodes := by
 rw [Zc9]
 cases e : aget es k with
 | none => exact ⟨Nat.zero_le _, fun x hx => by cases hx⟩
 | some v => exact h.2 _ (aget_mem e)
theorem gD_memL {α : Type} [Inhabited α] {l : List α} {i : Nat} (h : i < l.length) : l.getD i default ∈ l := Z235 h
theorem vb_some {es : LB} {i : Nat} (h : i < (Z26 (es.map Prod.fst)).length) : (vget es ((Z26 (es.map Prod.fst)).getD i default)).isSome = true := by
 rw [Zc9, Z70]
 exact (Z1d0 _ _).1 (gD_memL h)
theorem Z208 {β : Type} {ns : List (BA × β)} (h : NK ns) : (Z26 (ns.map Prod.fst)).length ≤ 1000000 := by rw [Z229]; exact h.1
end Go.Proofs.Ytpffbkbadnhmmaa
