/- Data: what is done over slices of the law's own is the same. -/
import Derived.Test.YtondcpkhedjajaaDoorDRaw
import Derived.Test.YtondcpkhedjajaaDoorDPL1
import Derived.Test.YtondcpkhedjajaaDoorDH8
set_option linter.unusedVariables false
set_option linter.unusedSimpArgs false
set_option maxRecDepth 100000
namespace Go.Proofs.YtondcpkhedjajaaDoor
open Go Go.Eng
theorem cond_pair {α β : Type} (b : Bool) (x y : α) (l : β) : cond b (x, l) (y, l) = (cond b x y, l) := by cases b <;> rfl
theorem data_bound_2_eq (n : ByteArray) (l : List XObj) : data_bound_2F n l = ((data_boundF l n).1, (data_boundF l n).2.1, (data_boundF l n).2.2, l) := by
  unfold data_bound_2F data_boundF
  simp only [data_get_2_eq]
  cases cond (!(data_getF l 3 n).2) true (!(data_getF l 3 n).1.phase == 3) <;> rfl
theorem data_Claim_2_eq (v : Int) (n : ByteArray) (l : List XObj) : data_Claim_2F v n l = (data_ClaimF l v n, l) := by
  unfold data_Claim_2F data_ClaimF
  simp only [data_bound_2_eq, cond_pair]
theorem data_restored_2LF_eq (n : ByteArray) : ∀ (l : List XObj) (m : List (ByteArray × Bool)), data_restored_2LF n l m = data_restoredLF n l m
  | [], _ => rfl
  | o :: r, m => by
    unfold data_restored_2LF data_restoredLF
    rw [data_restored_2LF_eq n r, data_restored_2LF_eq n r]
theorem data_restored_2_eq (n : ByteArray) (l : List XObj) : data_restored_2F n l = (data_restoredF l n, l) := by
  unfold data_restored_2F data_restoredF
  rw [data_restored_2LF_eq]
  cases data_restoredLF n l [] <;> rfl
theorem data_Snapshot_2_eq (v : Int) (n : ByteArray) (l : List XObj) : data_Snapshot_2F v n l = (data_SnapshotF l v n, l) := by
  unfold data_Snapshot_2F data_SnapshotF
  simp only [data_get_2_eq, data_bound_2_eq, data_restored_2_eq, cond_pair]
theorem data_After_2_eq (v : Int) (k : XKey) (c : XCall) (r : XRes) (l : List XObj) : data_After_2F v k c r l = (data_AfterF l v k c r, l) := by
  unfold data_After_2F data_AfterF
  simp only [data_get_2_eq, data_Claim_2_eq, data_Snapshot_2_eq, cond_pair]
theorem set_fine {l : List XObj} {i : Nat} {x : XObj} (h : ∀ o ∈ l, o.Fine) (hx : x.Fine) : ∀ o ∈ l.set i x, o.Fine := fun o ho => by
  rcases List.mem_or_eq_of_mem_set ho with h1 | rfl
  · exact h o h1
  · exact hx
theorem data_Claim_2_fine (v : Int) (n : ByteArray) (l : List XObj) (h : ∀ o ∈ l, o.Fine) : (data_Claim_2F v n l).1.obj.Fine := by rw [data_Claim_2_eq]; exact data_Claim_fine l v n h
theorem data_After_2_fine (v : Int) (k : XKey) (c : XCall) (r : XRes) (l : List XObj) (h : ∀ o ∈ l, o.Fine) : (data_After_2F v k c r l).1.obj.Fine := by rw [data_After_2_eq]; exact data_After_fine l v k c r h
end Go.Proofs.YtondcpkhedjajaaDoor
