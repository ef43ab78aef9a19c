/- Data: what is behind a call is within bounds. -/
import Derived.Test.YtondcpkhedjajaaDoorDH4
import Derived.Test.YtondcpkhedjajaaDoorDAfter
set_option linter.unusedVariables false
set_option linter.unusedSimpArgs false
set_option maxRecDepth 100000
namespace Go.Proofs.YtondcpkhedjajaaDoor
open Go Go.Eng
theorem data_After_fine (l : List XObj) (v : Int) (k : XKey) (c : XCall) (r : XRes) (h : ∀ o ∈ l, o.Fine) : (data_AfterF l v k c r).obj.Fine := by
  have h4 := data_get_fine l 4 c.target h
  have h7 := data_get_fine l 7 k.name h
  have e : (0 : Nat) < 4611686018427387904 := by decide
  unfold data_AfterF
  let Q : XAct → Prop := fun a => a.obj.Fine
  refine cond_all Q ?_ (cond_all Q ?_ fine_default)
  · refine cond_all Q fine_default (cond_all Q h4 (cond_all Q h4 (cond_all Q (cond_all Q h4 h4) (cond_all Q ?_ fine_default))))
    exact ⟨h4.1, h4.2.1, h4.2.2.1, h4.2.2.2.1, h4.2.2.2.2.1, h4.2.2.2.2.2.1, h4.2.2.2.2.2.2.1, e, h4.2.2.2.2.2.2.2.2⟩
  · refine cond_all Q fine_default (cond_all Q h7 (cond_all Q h7 (cond_all Q (cond_all Q h7 h7) (cond_all Q ?_ fine_default))))
    exact ⟨h7.1, h7.2.1, h7.2.2.1, h7.2.2.2.1, h7.2.2.2.2.1, h7.2.2.2.2.2.1, h7.2.2.2.2.2.2.1, e, h7.2.2.2.2.2.2.2.2⟩
theorem fine3 {a b c : XObj} (h1 : a.Fine) (h2 : b.Fine) (h3 : c.Fine) : ∀ o ∈ [a, b, c], o.Fine := by
  intro o ho
  simp only [List.mem_cons, List.not_mem_nil, or_false] at ho
  rcases ho with rfl | rfl | rfl
  · exact h1
  · exact h2
  · exact h3
theorem fine_del {x : XObj} {b : Bool} (h : x.Fine) : XObj.Fine { x with deleting := b } := h
end Go.Proofs.YtondcpkhedjajaaDoor
