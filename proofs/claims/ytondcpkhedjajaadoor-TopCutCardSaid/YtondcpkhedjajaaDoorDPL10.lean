/- Data: plain laws: a snapshot is cut, ready, dropped. -/
import Derived.Test.YtondcpkhedjajaaDoorDPL1
import Derived.Test.YtondcpkhedjajaaDoorDLawH
set_option linter.unusedVariables false
set_option linter.unusedSimpArgs false
set_option maxRecDepth 100000
namespace Go.Proofs.YtondcpkhedjajaaDoor
open Go Go.Eng
abbrev tC : XObj := ⟨3, ⟨#[99]⟩, 0, 0, false, false, ⟨#[102]⟩, 4, 0, 1, false, false, ⟨#[]⟩, ⟨#[]⟩, ⟨#[]⟩, ⟨#[118]⟩, ⟨#[]⟩, 3, 0, 0⟩
abbrev tV : XObj := ⟨4, ⟨#[118]⟩, 0, 0, false, false, ⟨#[102]⟩, 4, 4, 1, false, false, ⟨#[122]⟩, ⟨#[]⟩, ⟨#[99, 35, 49]⟩, ⟨#[]⟩, ⟨#[]⟩, 3, 0, 0⟩
abbrev tS (del : Bool) (got : Int) (vol : ByteArray) (phase num tag : Int) : XObj := ⟨7, ⟨#[115]⟩, 0, 7, del, false, ⟨#[]⟩, 0, got, 0, false, false, ⟨#[]⟩, ⟨#[]⟩, ⟨#[]⟩, vol, ⟨#[99]⟩, phase, num, tag⟩
abbrev hS : ByteArray := ⟨#[115, 110, 97, 112, 47, 115, 35, 55]⟩
theorem fmtU_7 : fmtU 7 = ⟨#[55]⟩ := by
  unfold fmtU
  rw [show (7 : Int).toNat = 7 from rfl, Lib.decDigits_one (by omega)]
  rfl
theorem tS_handle (del : Bool) (got : Int) (vol : ByteArray) (phase num tag : Int) : data_HandleF (tS del got vol phase num tag) = hS := by
  unfold data_HandleF
  rw [show (tS del got vol phase num tag).born = 7 from rfl, fmtU_7]
  rfl
theorem tS_get (del : Bool) (got : Int) (vol : ByteArray) (phase num tag : Int) : data_getF [tC, tV, tS del got vol phase num tag] 7 ⟨#[115]⟩ = (tS del got vol phase num tag, true) := by kernel_rfl
theorem cut1 (ver : Int) : data_SnapshotF [tC, tV, tS false 0 ⟨#[]⟩ 1 0 0] ver ⟨#[115]⟩ = ⟨1, tS false 0 ⟨#[118]⟩ 10 (IntKind.u64.wrap (ver + 1)) 0, default⟩ := by
  unfold data_SnapshotF
  simp only [tS_get, tS_handle]
  rfl
theorem cut2 (ver m : Int) : data_SnapshotF [tC, tV, tS false 0 ⟨#[118]⟩ 10 m 0] ver ⟨#[115]⟩ = ⟨3, default, ⟨6, hS, m, 0, ⟨#[]⟩, ⟨#[]⟩, ⟨#[118]⟩⟩⟩ := by
  unfold data_SnapshotF
  simp only [tS_get, tS_handle]
  rfl
theorem cut3 (ver m tag : Int) (w : ByteArray) : data_AfterF [tC, tV, tS false 0 ⟨#[118]⟩ 10 m 0] ver ⟨7, ⟨#[115]⟩⟩ ⟨6, hS, m, 0, ⟨#[]⟩, ⟨#[]⟩, ⟨#[118]⟩⟩ ⟨0, 4, w, tag⟩ = ⟨1, tS false 4 ⟨#[118]⟩ 11 0 tag, default⟩ := by
  unfold data_AfterF
  simp only [cut2, tS_get]
  simp
theorem cut4 (ver tag : Int) : data_SnapshotF [tC, tV, tS true 4 ⟨#[118]⟩ 11 0 tag] ver ⟨#[115]⟩ = ⟨1, tS true 4 ⟨#[118]⟩ 6 (IntKind.u64.wrap (ver + 1)) tag, default⟩ := by
  unfold data_SnapshotF
  simp only [tS_get, tS_handle]
  rfl
theorem cut5 (ver m tag : Int) : data_SnapshotF [tC, tV, tS true 4 ⟨#[118]⟩ 6 m tag] ver ⟨#[115]⟩ = ⟨3, default, ⟨7, hS, m, 0, ⟨#[]⟩, ⟨#[]⟩, ⟨#[]⟩⟩⟩ := by
  unfold data_SnapshotF
  simp only [tS_get, tS_handle]
  rfl
theorem cut6 (ver m tag : Int) (w : ByteArray) : data_AfterF [tC, tV, tS true 4 ⟨#[118]⟩ 6 m tag] ver ⟨7, ⟨#[115]⟩⟩ ⟨7, hS, m, 0, ⟨#[]⟩, ⟨#[]⟩, ⟨#[]⟩⟩ ⟨0, 0, w, 0⟩ = ⟨2, tS true 4 ⟨#[118]⟩ 6 m tag, default⟩ := by
  unfold data_AfterF
  simp only [cut5, tS_get]
  simp
theorem cut7 (ver m tag : Int) : data_AfterF [tC, tV, tS true 4 ⟨#[118]⟩ 6 m tag] ver ⟨7, ⟨#[115]⟩⟩ ⟨7, hS, m, 0, ⟨#[]⟩, ⟨#[]⟩, ⟨#[]⟩⟩ default = ⟨2, tS true 4 ⟨#[118]⟩ 6 m tag, default⟩ := cut6 ver m tag ⟨#[]⟩
theorem topCut (v t : Int) (h1 : 0 ≤ v) (h2 : v ≤ 4294967295) (h3 : 0 ≤ t) (h4 : t ≤ 18446744073709551615) : t_TopCutF v t = true := by
  unfold t_TopCutF
  have w0 : IntKind.u64.wrap v = v := wrap_u64 h1 (by omega)
  have w1 : IntKind.u64.wrap (v + 1) = v + 1 := wrap_u64 (by omega) (by omega)
  have w2 : IntKind.u64.wrap (v + 2) = v + 2 := wrap_u64 (by omega) (by omega)
  have w3 : IntKind.u64.wrap (v + 3) = v + 3 := wrap_u64 (by omega) (by omega)
  have w21 : IntKind.u64.wrap (v + 2 + 1) = v + 3 := by rw [wrap_u64 (by omega) (by omega)]; omega
  simp only [w0, w1, w2, w3, cut1, cut2, cut3, cut4, cut5, cut7, w21]
  simp
end Go.Proofs.YtondcpkhedjajaaDoor
