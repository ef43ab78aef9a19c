/- Binding: plain laws: the live world, claims, volumes, names. -/
import Derived.Test.YtnfmnipckcidlaaDoorDPL2
import Derived.Test.YtnfmnipckcidlaaDoorDLawA
import Derived.Test.YtnfmnipckcidlaaDoorDLawB
set_option linter.unusedVariables false
set_option linter.unusedSimpArgs false
set_option maxRecDepth 100000
namespace Go.Proofs.YtnfmnipckcidlaaDoor
open Go Go.Eng
theorem fmtU_2 : fmtU 2 = ⟨#[50]⟩ := by
  unfold fmtU
  rw [show (2 : Int).toNat = 2 from rfl, Lib.decDigits_one (by omega)]
  rfl
def liveC : XObj := (⟨3, ⟨#[99]⟩, 2, 2, false, true, ⟨#[102]⟩, 4, 0, 1, false, false, ⟨#[]⟩, ⟨#[]⟩, ⟨#[]⟩, ⟨#[]⟩, ⟨#[]⟩, 1, 0, 0⟩ : XObj)
def liveW : List XObj := [(⟨1, ⟨#[102]⟩, 0, 0, false, false, ⟨#[]⟩, 0, 0, 0, false, false, ⟨#[122]⟩, ⟨#[]⟩, ⟨#[]⟩, ⟨#[]⟩, ⟨#[]⟩, 0, 0, 0⟩ : XObj), liveC]
theorem live_handle : r12_HandleF liveC = (⟨#[112, 118, 99, 47, 99, 35, 50]⟩ : ByteArray) := by
  unfold r12_HandleF
  rw [show liveC.born = 2 from rfl, fmtU_2]
  kernel_rfl
theorem live_ref : bind_RefF liveC = (⟨#[99, 35, 50]⟩ : ByteArray) := by
  rw [ref_eq]
  unfold r12_RefF
  rw [live_handle, show liveC.born = 2 from rfl, fmtU_2]
  kernel_rfl
theorem live_get : r12_GetF (r12_UniqF liveW) 3 (⟨#[99]⟩ : ByteArray) = (liveC, true) := by kernel_rfl
theorem live_claim : bind_ClaimF liveW (7 : Int) (⟨#[99]⟩ : ByteArray) = ⟨1, { liveC with zone := ⟨#[122]⟩, phase := 2, num := 8 }, default⟩ := by
  rw [Claim_eq]
  unfold r12_ClaimF
  simp only [live_get, live_handle]
  kernel_rfl
theorem live_true : w12_liveF = true := by
  unfold w12_liveF
  have h1 := live_claim
  have h2 := live_ref
  have h3 := live_handle
  rw [← handle_eq] at h3
  unfold liveW liveC at *
  rw [h1, h2, h3]
  exact rfl
theorem bindClaims (l : List XObj) (v : Int) (n : ByteArray) : w12_BindClaimsF l v n = true := by
  unfold w12_BindClaimsF
  rw [live_true, Claim_eq]
  simp
theorem bindVolumes (l : List XObj) (v : Int) (n : ByteArray) : w12_BindVolumesF l v n = true := by
  unfold w12_BindVolumesF
  rw [live_true, Volume_eq]
  simp
theorem bindNames (l : List XObj) (c : XObj) : w12_BindNamesF l c = true := by
  unfold w12_BindNamesF
  rw [live_true, best_eq, ref_eq, handle_eq]
  simp
end Go.Proofs.YtnfmnipckcidlaaDoor
