/- Data: plain laws: claims, snapshots, what is behind a call. -/
import Derived.Test.YtondcpkhedjajaaDoorDPL2
import Derived.Test.YtondcpkhedjajaaDoorDLawA
set_option linter.unusedVariables false
set_option linter.unusedSimpArgs false
set_option maxRecDepth 100000
namespace Go.Proofs.YtondcpkhedjajaaDoor
open Go Go.Eng
theorem fmtU_3 : fmtU 3 = ⟨#[51]⟩ := by
  unfold fmtU
  rw [show (3 : Int).toNat = 3 from rfl, Lib.decDigits_one (by omega)]
  rfl
theorem handle_world : data_HandleF ((w14_worldF 4 4).getD 2 default) = (⟨#[115, 110, 97, 112, 47, 115, 35, 51]⟩ : ByteArray) := by
  unfold data_HandleF
  rw [show ((w14_worldF 4 4).getD 2 default).born = 3 from rfl, fmtU_3]
  rfl
theorem get_world : data_getF (w14_worldF 4 4) 7 (⟨#[115]⟩ : ByteArray) = ((w14_worldF 4 4).getD 2 default, true) := by kernel_rfl
theorem live_snap : data_SnapshotF (w14_worldF (4 : Int) (4 : Int)) (9 : Int) (⟨#[115]⟩ : ByteArray) = ⟨1, { (w14_worldF 4 4).getD 2 default with phase := 10, volume := ⟨#[118]⟩, num := 10 }, default⟩ := by
  unfold data_SnapshotF
  simp only [get_world, handle_world]
  rfl
theorem live_true : w14_liveF = true := by
  unfold w14_liveF
  rw [live_snap, handle_world]
  rfl
theorem dataClaims (l : List XObj) (v : Int) (n : ByteArray) : w14_DataClaimsF l v n = true := by
  unfold w14_DataClaimsF
  rw [live_true, Claim_eq]
  simp
end Go.Proofs.YtondcpkhedjajaaDoor
