/- Data: plain laws: the program's answer and the document's are one. -/
import Derived.Test.YtondcpkhedjajaaDoorDPL1
set_option linter.unusedVariables false
set_option linter.unusedSimpArgs false
set_option maxRecDepth 100000
namespace Go.Proofs.YtondcpkhedjajaaDoor
open Go Go.Eng
theorem Claim_eq (l : List XObj) (ver : Int) (n : ByteArray) : data_ClaimF l ver n = r14_ClaimF l ver n := by
  unfold data_ClaimF r14_ClaimF r12_WriteF r12_AskF data_boundF
  simp only [r12_Uniq_get]
  generalize data_getF l 3 n = C
  obtain ⟨c, is⟩ := C
  dsimp only
  generalize data_getF l 4 c.volume = V
  obtain ⟨v, has⟩ := V
  cases is
  · rfl
  by_cases h1 : c.phase = 3
  · have e1 : (c.phase == 3) = true := by simpa using h1
    simp only [e1, Bool.not_true, cond_false, cond_true]
    cases has
    · rfl
    by_cases h2 : v.phase = 3
    · have e2 : (v.phase == 3) = true := by simpa using h2
      simp only [e2, Bool.not_true, cond_false, cond_true]
      by_cases h3 : v.got ≥ c.size
      · simp only [h3, decide_true, cond_true]
        by_cases h4 : c.got = v.got <;> simp [h4]
      · simp only [h3, decide_false, cond_false]
        by_cases h5 : v.size < c.size
        · have h6 : ¬ v.size ≥ c.size := by omega
          have h7 : c.size > v.size := h5
          simp [h5, h7, h6]
        · have h6 : v.size ≥ c.size := by omega
          have h7 : ¬ c.size > v.size := h5
          by_cases h8 : v.num = 0 <;> simp [h5, h7, h6, h8]
    · have e2 : (v.phase == 3) = false := by simpa using h2
      simp only [e2, Bool.not_false, cond_true, Bool.not_true, cond_false]
  · have e1 : (c.phase == 3) = false := by simpa using h1
    simp only [e1, Bool.not_false, cond_true, Bool.not_true, cond_false]
theorem Handle_eq (o : XObj) : data_HandleF o = r14_HandleF o := by
  unfold data_HandleF r14_HandleF
  generalize ((((⟨#[115, 110, 97, 112, 47]⟩ : ByteArray) ++ o.name) ++ (⟨#[35]⟩ : ByteArray)) ++ (fmtU o.born)) = x
  by_cases h : (x.size : Int) ≤ 40
  · have : ¬ (x.size : Int) > 40 := by omega
    simp [h, this]
  · have : (x.size : Int) > 40 := by omega
    simp [h, this]
theorem Snapshot_eq (l : List XObj) (ver : Int) (n : ByteArray) : data_SnapshotF l ver n = r14_SnapshotF l ver n := by
  unfold data_SnapshotF r14_SnapshotF r12_WriteF r12_AskF
  simp only [r12_Uniq_get, restored_uniq, Handle_eq]
  generalize data_getF l 7 n = S
  obtain ⟨s, is⟩ := S
  dsimp only
  generalize r14_HandleF s = H
  generalize data_restoredF l n = R
  unfold data_boundF
  try dsimp only
  generalize data_getF l 3 s.source = C
  obtain ⟨c, has⟩ := C
  dsimp only
  generalize data_getF l 4 c.volume = V
  obtain ⟨v, there⟩ := V
  dsimp only
  cases is
  · rfl
  by_cases hH : H = ⟨#[]⟩
  · simp [hH]
  simp only [hH, decide_false, Bool.not_true, cond_false]
  cases hd : s.deleting
  · simp only [cond_false]
    by_cases p6 : s.phase = 6
    · simp [p6]
    by_cases p1 : s.phase = 1
    · simp only [p1]
      cases has
      · rfl
      by_cases h1 : c.phase = 3
      · have e1 : (c.phase == 3) = true := by simpa using h1
        simp only [e1]
        cases there
        · rfl
        by_cases h2 : v.phase = 3
        · have e2 : (v.phase == 3) = true := by simpa using h2
          simp only [e2]; rfl
        · have e2 : (v.phase == 3) = false := by simpa using h2
          simp only [e2]; rfl
      · have e1 : (c.phase == 3) = false := by simpa using h1
        simp only [e1]; rfl
    · have e6 : (s.phase == 6) = false := by simpa using p6
      have e1 : (s.phase == 1) = false := by simpa using p1
      simp only [e6, e1, cond_false]
  · simp only [cond_true]
    cases R
    · by_cases p6 : s.phase = 6
      · simp [p6]
      · have e6 : (s.phase == 6) = false := by simpa using p6
        simp only [e6, cond_false, Bool.not_false, cond_true]
    · rfl
end Go.Proofs.YtondcpkhedjajaaDoor
