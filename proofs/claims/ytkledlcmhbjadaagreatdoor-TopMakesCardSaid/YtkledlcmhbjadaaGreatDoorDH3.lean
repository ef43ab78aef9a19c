/- The driver: by hand: maps whose keys may be sorted. -/
import Derived.Test.YtkledlcmhbjadaaGreatDoorDPLA
set_option linter.unusedVariables false
set_option linter.unusedSimpArgs false
set_option maxRecDepth 100000
namespace Go.Proofs.YtkledlcmhbjadaaGreatDoor
open Go Go.Eng
def NK {β : Type} (ns : List (ByteArray × β)) : Prop := (ns.map Prod.fst).length ≤ 1000000 ∧ ∀ k ∈ ns.map Prod.fst, k.size ≤ maxLen
def VB (es : List (ByteArray × XVn)) : Prop := NK es ∧ ∀ e ∈ es, NK e.2.nodes
theorem vb_nk {es : List (ByteArray × XVn)} (h : VB es) (k : ByteArray) : NK ((vget es k).getD default).nodes := by
 rw [vget_str]
 cases e : aget es k with
 | none => exact ⟨Nat.zero_le _, fun x hx => by cases hx⟩
 | some v => exact h.2 _ (aget_mem e)
theorem gD_memL {α : Type} [Inhabited α] {l : List α} {i : Nat} (h : i < l.length) : l.getD i default ∈ l := Z33 h
theorem vb_some {es : List (ByteArray × XVn)} {i : Nat} (h : i < (Z39 (es.map Prod.fst)).length) : (vget es ((Z39 (es.map Prod.fst)).getD i default)).isSome = true := by
 rw [vget_str, aget_isSome]
 exact (sortB_mem _ _).1 (gD_memL h)
theorem sort_le {β : Type} {ns : List (ByteArray × β)} (h : NK ns) : (Z39 (ns.map Prod.fst)).length ≤ 1000000 := by rw [Z187]; exact h.1
end Go.Proofs.YtkledlcmhbjadaaGreatDoor
