/- Data: what is behind a call: the program's answer and the document's are one. -/
import Derived.Test.YtondcpkhedjajaaDoorDPL3
import Derived.Test.YtondcpkhedjajaaDoorDLawB
set_option maxRecDepth 100000
namespace Go.Proofs.YtondcpkhedjajaaDoor
open Go Go.Eng
theorem cond_split {α : Type} (p : α → Prop) (b : Bool) (x y : α) (h1 : b = true → p x) (h2 : b = false → p y) : p (cond b x y) := by cases b; exact h2 rfl; exact h1 rfl
theorem Claim_ask (l : List XObj) (ver : Int) (n : ByteArray) : (data_ClaimF l ver n).act = 3 → (data_ClaimF l ver n).call.verb = 5 := by
  unfold data_ClaimF
  refine cond_split (fun a : XAct => a.act = 3 → a.call.verb = 5) _ _ _ (fun _ h => by cases h) fun _ => ?_
  refine cond_split (fun a : XAct => a.act = 3 → a.call.verb = 5) _ _ _ (fun _ => ?_) fun _ => ?_
  · exact cond_split (fun a : XAct => a.act = 3 → a.call.verb = 5) _ _ _ (fun _ h => by cases h) fun _ h => by cases h
  · exact cond_split (fun a : XAct => a.act = 3 → a.call.verb = 5) _ _ _ (fun _ _ => rfl) fun _ h => by cases h
theorem Snapshot_ask (l : List XObj) (ver : Int) (n : ByteArray) : (data_SnapshotF l ver n).act = 3 → (data_SnapshotF l ver n).call.verb = 7 ∨ (data_SnapshotF l ver n).call.verb = 6 := by
  unfold data_SnapshotF
  let Q : XAct → Prop := fun a => a.act = 3 → a.call.verb = 7 ∨ a.call.verb = 6
  refine cond_split Q _ _ _ (fun _ h => by cases h) fun _ => ?_
  refine cond_split Q _ _ _ (fun _ _ => .inl rfl) fun _ => ?_
  refine cond_split Q _ _ _ (fun _ h => by cases h) fun _ => ?_
  refine cond_split Q _ _ _ (fun _ _ => .inr rfl) fun _ => ?_
  refine cond_split Q _ _ _ (fun _ => ?_) (fun _ h => by cases h)
  exact cond_split Q _ _ _ (fun _ h => by cases h) fun _ h => by cases h
theorem after_claim (A : XAct) (c : XCall) (hA : A.act = 3 → A.call.verb = 5) {N N' : Bool} (hN : N = (cond (!(A.act == (3 : Int))) true (!((A.call.verb == c.verb) && N')))) : N = false → c.verb = 5 := by
  intro h
  rw [hN] at h
  by_cases h3 : A.act = 3
  · have := hA h3
    have e3 : (A.act == 3) = true := by simpa using h3
    rw [e3] at h
    simp at h
    omega
  · have e3 : (A.act == 3) = false := by simpa using h3
    rw [e3] at h
    cases h
theorem after_snap (A : XAct) (c : XCall) (hA : A.act = 3 → A.call.verb = 7 ∨ A.call.verb = 6) {N N' : Bool} (hN : N = (cond (!(A.act == (3 : Int))) true (!((A.call.verb == c.verb) && N')))) : N = false → c.verb = 7 ∨ c.verb = 6 := by
  intro h
  rw [hN] at h
  by_cases h3 : A.act = 3
  · have := hA h3
    have e3 : (A.act == 3) = true := by simpa using h3
    rw [e3] at h
    simp at h
    omega
  · have e3 : (A.act == 3) = false := by simpa using h3
    rw [e3] at h
    cases h
theorem After_eq (l : List XObj) (ver : Int) (k : XKey) (c : XCall) (r : XRes) : data_AfterF l ver k c r = r14_AfterF l ver k c r := by
  unfold data_AfterF r14_AfterF r12_WriteF r12_RemoveF
  simp only [r12_Uniq_get, ← Claim_eq, ← Snapshot_eq, claim_uniq, snap_uniq]
  by_cases k3 : k.kind = 3
  · have e3 : (k.kind == 3) = true := by simpa using k3
    simp only [e3, cond_true]
    generalize hN : (cond (!((data_ClaimF l ver k.name).act == (3 : Int))) true _) = N
    have hv := after_claim _ c (Claim_ask l ver k.name) hN.symm
    clear hN
    cases N
    · have hv := hv rfl
      simp only [hv, cond_false]
      by_cases r9 : r.err = 9
      · simp [r9]
      · have e9 : (r.err == 9) = false := by simpa using r9
        by_cases r0 : r.err = 0 <;> simp [r0, e9]
    · rfl
  · have e3 : (k.kind == 3) = false := by simpa using k3
    simp only [e3, cond_false]
    by_cases k7 : k.kind = 7
    · have e7 : (k.kind == 7) = true := by simpa using k7
      simp only [e7, cond_true]
      generalize hN : (cond (!((data_SnapshotF l ver k.name).act == (3 : Int))) true _) = N
      have hv := after_snap _ c (Snapshot_ask l ver k.name) hN.symm
      clear hN
      cases N
      · have hv := hv rfl
        simp only [cond_false]
        rcases hv with hv | hv
        · simp only [hv]
          by_cases r9 : r.err = 9
          · simp [r9]
          · have e9 : (r.err == 9) = false := by simpa using r9
            by_cases r0 : r.err = 0
            · simp [r0]
            · have e0 : (r.err == 0) = false := by simpa using r0
              simp [e0, e9]
        · simp only [hv]
          by_cases r9 : r.err = 9
          · simp [r9]
          · have e9 : (r.err == 9) = false := by simpa using r9
            by_cases r0 : r.err = 0
            · simp [r0]
            · by_cases r5 : r.err = 5
              · simp [r5]
              · have e0 : (r.err == 0) = false := by simpa using r0
                have e5 : (r.err == 5) = false := by simpa using r5
                simp [e0, e5, e9]
      · rfl
    · have e7 : (k.kind == 7) = false := by simpa using k7
      simp only [e7, cond_false]
      try rfl
theorem dataAfters (l : List XObj) (v : Int) (a0 : Int) (a1 : ByteArray) (a2 : Int) (a3 : ByteArray) (a4 a5 : Int) (a6 a7 a8 : ByteArray) (a9 : Bool) (a10 a11 : Int) (a12 : ByteArray) (a13 : Int) : w14_DataAftersF l v a0 a1 a2 a3 a4 a5 a6 a7 a8 a9 a10 a11 a12 a13 = true := by
  unfold w14_DataAftersF
  rw [live_true, After_eq]
  simp
end Go.Proofs.YtondcpkhedjajaaDoor
