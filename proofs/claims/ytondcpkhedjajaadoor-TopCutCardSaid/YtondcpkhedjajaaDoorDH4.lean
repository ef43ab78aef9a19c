/- Data: what is written is within bounds. -/
import Derived.Test.YtondcpkhedjajaaDoorDLive
set_option linter.unusedVariables false
set_option linter.unusedSimpArgs false
set_option maxRecDepth 100000
namespace Go.Proofs.YtondcpkhedjajaaDoor
open Go Go.Eng
theorem cond_all {α : Type} (p : α → Prop) {b : Bool} {x y : α} (h1 : p x) (h2 : p y) : p (cond b x y) := by cases b; exact h2; exact h1
theorem data_bound_fine (l : List XObj) (n : ByteArray) (h : ∀ o ∈ l, o.Fine) : (data_boundF l n).1.Fine ∧ (data_boundF l n).2.1.Fine := by
  unfold data_boundF
  exact cond_all (fun p : XObj × XObj × Bool => p.1.Fine ∧ p.2.1.Fine) ⟨data_get_fine _ _ _ h, fine_default⟩ ⟨data_get_fine _ _ _ h, data_get_fine _ _ _ h⟩
theorem data_Claim_fine (l : List XObj) (v : Int) (n : ByteArray) (h : ∀ o ∈ l, o.Fine) : (data_ClaimF l v n).obj.Fine := by
  obtain ⟨hc, hv⟩ := data_bound_fine l n h
  unfold data_ClaimF
  refine cond_all (fun a : XAct => a.obj.Fine) fine_default ?_
  refine cond_all (fun a : XAct => a.obj.Fine) ?_ ?_
  · exact cond_all (fun a : XAct => a.obj.Fine) fine_default hc
  · exact cond_all (fun a : XAct => a.obj.Fine) fine_default hv
theorem data_Snapshot_fine (l : List XObj) (v : Int) (n : ByteArray) (h : ∀ o ∈ l, o.Fine) : (data_SnapshotF l v n).obj.Fine := by
  have hs := data_get_fine l 7 n h
  unfold data_SnapshotF
  refine cond_all (fun a : XAct => a.obj.Fine) fine_default ?_
  refine cond_all (fun a : XAct => a.obj.Fine) fine_default ?_
  refine cond_all (fun a : XAct => a.obj.Fine) hs ?_
  refine cond_all (fun a : XAct => a.obj.Fine) fine_default ?_
  refine cond_all (fun a : XAct => a.obj.Fine) ?_ fine_default
  refine cond_all (fun a : XAct => a.obj.Fine) fine_default ?_
  obtain ⟨_, hv⟩ := data_bound_fine l (data_getF l 7 n).1.source h
  exact ⟨hs.1, hs.2.1, hs.2.2.1, hs.2.2.2.1, hs.2.2.2.2.1, hs.2.2.2.2.2.1, hs.2.2.2.2.2.2.1, hv.1, hs.2.2.2.2.2.2.2.2⟩
end Go.Proofs.YtondcpkhedjajaaDoor
