/- Data: a snapshot's name at the driver is empty, or begins with "snap/". -/
import Derived.Test.YtondcpkhedjajaaDoorDLive
set_option linter.unusedVariables false
set_option linter.unusedSimpArgs false
set_option maxRecDepth 100000
namespace Go.Proofs.YtondcpkhedjajaaDoor
open Go Go.Eng
theorem handle_5 (o : XObj) : data_HandleF o = ⟨#[]⟩ ∨ 5 ≤ (data_HandleF o).size := by
  unfold data_HandleF
  cases decide ((((((⟨#[115, 110, 97, 112, 47]⟩ : ByteArray) ++ o.name) ++ (⟨#[35]⟩ : ByteArray)) ++ (fmtU o.born)).size : Int) ≤ (40 : Int)) with
  | false => exact .inl rfl
  | true =>
    right
    simp only [cond_true, ByteArray.size_append, size_mk, List.size_toArray, List.length_cons, List.length_nil]
    omega
theorem handles_5 {o : XObj} {b : Bool} (h : cond (decide (data_HandleF o = (⟨#[]⟩ : ByteArray))) true b = false) : (0 : Int) ≤ 0 ∧ (0 : Int) ≤ 5 ∧ (5 : Int) ≤ ((data_HandleF o).size : Int) := by
  rcases handle_5 o with e | e
  · rw [e] at h; cases h
  · exact ⟨by omega, by omega, by omega⟩
end Go.Proofs.YtondcpkhedjajaaDoor
