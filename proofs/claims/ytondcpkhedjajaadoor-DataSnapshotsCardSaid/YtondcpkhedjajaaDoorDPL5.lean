/- Data: plain laws: snapshots, sizes. -/
import Derived.Test.YtondcpkhedjajaaDoorDPL3
import Derived.Test.YtondcpkhedjajaaDoorDLawC
import Derived.Test.YtondcpkhedjajaaDoorDLawA
set_option linter.unusedVariables false
set_option linter.unusedSimpArgs false
set_option maxRecDepth 100000
namespace Go.Proofs.YtondcpkhedjajaaDoor
open Go Go.Eng
theorem snapshotsLF : ∀ l : List XObj, w14_DataSnapshotsLF l = false
  | [] => rfl
  | o :: r => by
    unfold w14_DataSnapshotsLF
    rw [Handle_eq]
    simpa using snapshotsLF r
theorem dataSnapshots (l : List XObj) (v : Int) (n : ByteArray) : w14_DataSnapshotsF l v n = true := by
  unfold w14_DataSnapshotsF
  rw [snapshotsLF, live_true, Snapshot_eq]
  simp
/-- What is done for a claim: nothing or a question; the claim; its volume. -/
theorem Claim_cases (l : List XObj) (ver : Int) (n : ByteArray) : (data_ClaimF l ver n).act ≠ 1 ∨
    ((data_getF l 3 n).2 = true ∧ data_ClaimF l ver n = ⟨1, { (data_getF l 3 n).1 with got := (data_getF l 4 (data_getF l 3 n).1.volume).1.got }, default⟩) ∨
    ((data_getF l 3 n).2 = true ∧ (data_getF l 4 (data_getF l 3 n).1.volume).2 = true ∧ data_ClaimF l ver n = ⟨1, { (data_getF l 4 (data_getF l 3 n).1.volume).1 with size := (if (data_getF l 3 n).1.size > (data_getF l 4 (data_getF l 3 n).1.volume).1.size then (data_getF l 3 n).1.size else (data_getF l 4 (data_getF l 3 n).1.volume).1.size), num := IntKind.u64.wrap (ver + 1) }, default⟩) := by
  unfold data_ClaimF data_boundF
  generalize data_getF l 3 n = C
  obtain ⟨c, is⟩ := C
  dsimp only
  generalize data_getF l 4 c.volume = V
  obtain ⟨v, has⟩ := V
  dsimp only
  cases is
  · left; exact (by decide : (0 : Int) ≠ 1)
  cases h1 : c.phase == 3
  · left; exact (by decide : (0 : Int) ≠ 1)
  cases has
  · left; exact (by decide : (0 : Int) ≠ 1)
  cases h2 : v.phase == 3
  · left; exact (by decide : (0 : Int) ≠ 1)
  simp only [Bool.not_true, cond_false, cond_true]
  cases h3 : decide (v.got ≥ c.size)
  · simp only [cond_false]
    cases h4 : cond (decide (v.size ≥ c.size)) (!(v.num == 0)) false
    · right; right; exact ⟨trivial, trivial, rfl⟩
    · left; exact (by decide : (3 : Int) ≠ 1)
  · simp only [cond_true]
    cases h4 : c.got == v.got
    · right; left; exact ⟨trivial, rfl⟩
    · left; exact (by decide : (0 : Int) ≠ 1)
theorem dataGrows_pure (l : List XObj) (v : Int) (n : ByteArray) : w14_DataGrowsF l v n = true := by
  unfold w14_DataGrowsF
  rw [live_true]
  generalize w14_fewF l = l
  simp only [r12_Get_eq]
  rcases Claim_cases l v n with h | ⟨hc, h⟩ | ⟨hc, hv, h⟩
  · have : ((data_ClaimF l v n).act == 1) = false := by simpa using h
    rw [this]; rfl
  · obtain ⟨_, k1, k2⟩ := getLF_found 3 n l hc
    have k1 : (data_getF l 3 n).1.kind = 3 := k1
    have k2 : (data_getF l 3 n).1.name = n := k2
    rw [h]
    simp [k1, k2]
  · obtain ⟨_, k1, k2⟩ := getLF_found 4 _ l hv
    have k1 : (data_getF l 4 (data_getF l 3 n).1.volume).1.kind = 4 := k1
    have k2 : (data_getF l 4 (data_getF l 3 n).1.volume).1.name = (data_getF l 3 n).1.volume := k2
    rw [h]
    simp only [k1, k2, hv]
    simp [k1, k2]
    split <;> omega
end Go.Proofs.YtondcpkhedjajaaDoor
