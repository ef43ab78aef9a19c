/- The engine, part 19: plain laws: lists, bytes, what must hold. -/
import Derived.Test.YtnfmnipckcidlaaDoorE17
import Derived.Test.YtnfmnipckcidlaaDoorE18
set_option linter.unusedVariables false
set_option linter.unusedSimpArgs false
namespace Go.Eng
theorem need_nil : ∀ q ∈ ([] : List Prop), q := nofun
theorem need_cons {p : Prop} {ps : List Prop} (h : p) (k : ∀ q ∈ ps, q) : ∀ q ∈ p :: ps, q := fun q hq => by
  rcases List.mem_cons.1 hq with rfl | hq
  · exact h
  · exact k q hq
theorem drop_getD {α : Type} [Inhabited α] {l : List α} {i : Nat} (h : i < l.length) : l.drop i = l.getD i default :: l.drop (i + 1) := by
  rw [List.getD_eq_getElem?_getD, List.getElem?_eq_getElem h, List.drop_eq_getElem_cons h]
  rfl
theorem byteSize_lit (l : List UInt8) : (⟨⟨l⟩⟩ : ByteArray).size = l.length := rfl
theorem size_mk (a : Array UInt8) : (⟨a⟩ : ByteArray).size = a.size := rfl
/-- Names and a time that are not beyond bounds. -/
def XObj.Fine (o : XObj) : Prop := o.name.size ≤ 140737488351232 ∧ 0 ≤ o.born ∧ o.born ≤ 18446744073709551615 ∧ o.cls.size ≤ 140737488351232 ∧ o.zone.size ≤ 140737488351232 ∧ o.node.size ≤ 140737488351232 ∧ o.claim.size ≤ 140737488351232 ∧ o.volume.size ≤ 140737488351232 ∧ o.source.size ≤ 140737488351232
instance (o : XObj) : Decidable o.Fine := by unfold XObj.Fine; exact inferInstance
theorem XObj.Ok.fine {o : XObj} (h : o.Ok) : o.Fine := by
  have h1 := wf_u64 h.born
  exact ⟨h.name, h1.1, h1.2, h.cls, h.zone, h.node, h.claim, h.volume, h.source⟩
theorem fine_default : (default : XObj).Fine := by decide
end Go.Eng
