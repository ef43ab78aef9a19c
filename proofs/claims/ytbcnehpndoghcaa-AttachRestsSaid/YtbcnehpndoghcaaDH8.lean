/- Attach: by hand: the nodes that a row of numbers names. -/
import Derived.Test.YtbcnehpndoghcaaDH7
set_option linter.unusedVariables false
set_option linter.unusedSimpArgs false
set_option maxRecDepth 100000
namespace Go.Proofs.Ytbcnehpndoghcaa
open Go Go.Eng
theorem bytesStr_size (l : List Int) : (bytesStr l).size = l.length := by
  have h : ∀ (l : List Int) (s : ByteArray), (l.foldl (fun r n => r.push (UInt8.ofNat n.toNat)) s).size = s.size + l.length := by
    intro l
    induction l with
    | nil => intro s; rfl
    | cons o r ih => intro s; rw [List.foldl_cons, ih, ByteArray.size_push, List.length_cons]; omega
  unfold bytesStr
  rw [h]
  exact Nat.zero_add _
theorem rests_test {i n : Nat} (h : cond (decide ((i : Int) < (n : Int))) (decide ((i : Int) < (8 : Int))) false = true) : i < n ∧ i < 8 := by
  cases h1 : decide ((i : Int) < (n : Int)) with
  | false => rw [h1] at h; cases h
  | true =>
    rw [h1] at h
    have h2 := of_decide_eq_true h1
    have h3 : (i : Int) < 8 := of_decide_eq_true h
    exact ⟨by omega, by omega⟩
/-- A node by a number. -/
def dgt (x : Int) : ByteArray := bytesStr [(110 : Int), (IntKind.u8.wrap ((48 : Int) + (x.tmod (10 : Int))))]
theorem dgt_size (x : Int) : (dgt x).size = 2 := bytesStr_size _
/-- A pod at a node, an attachment of it. -/
def podAt (d : ByteArray) : XObj := ⟨6, (⟨#[112]⟩ : ByteArray) ++ d, 0, 0, false, false, ⟨#[]⟩, 0, 0, 0, false, false, ⟨#[]⟩, d, ⟨#[99]⟩, ⟨#[]⟩, ⟨#[]⟩, 0, 0, 0⟩
def attAt (d : ByteArray) : XObj := ⟨5, (⟨#[118, 47]⟩ : ByteArray) ++ d, 0, 0, false, false, ⟨#[]⟩, 0, 0, 0, false, false, ⟨#[]⟩, d, ⟨#[]⟩, ⟨#[118]⟩, ⟨#[]⟩, 8, 0, 0⟩
theorem podAt_fine {d : ByteArray} (h : d.size ≤ 1000) : (podAt d).Fine := by
  unfold podAt XObj.Fine
  simp only [ByteArray.size_append, size_mk, List.size_toArray, List.length_cons, List.length_nil]
  omega
theorem attAt_fine {d : ByteArray} (h : d.size ≤ 1000) : (attAt d).Fine := by
  unfold attAt XObj.Fine
  simp only [ByteArray.size_append, size_mk, List.size_toArray, List.length_cons, List.length_nil]
  omega
theorem fine_app {l : List XObj} {x : XObj} (h : ∀ o ∈ l, o.Fine) (hx : x.Fine) : ∀ o ∈ l ++ [x], o.Fine := fun o ho => by
  rcases List.mem_append.1 ho with ho | ho
  · exact h o ho
  · rw [List.mem_singleton.1 ho]; exact hx
end Go.Proofs.Ytbcnehpndoghcaa
