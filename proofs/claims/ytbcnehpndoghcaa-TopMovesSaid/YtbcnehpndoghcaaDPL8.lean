/- Attach: plain laws: from one node to another. -/
import Derived.Test.YtbcnehpndoghcaaDH7
import Derived.Test.YtbcnehpndoghcaaDLawH
set_option linter.unusedVariables false
set_option linter.unusedSimpArgs false
set_option maxRecDepth 100000
namespace Go.Proofs.Ytbcnehpndoghcaa
open Go Go.Eng
abbrev mC : XObj := ⟨3, ⟨#[99]⟩, 0, 0, false, false, ⟨#[102]⟩, 4, 0, 1, false, false, ⟨#[]⟩, ⟨#[]⟩, ⟨#[]⟩, ⟨#[118]⟩, ⟨#[]⟩, 3, 0, 0⟩
abbrev mV : XObj := ⟨4, ⟨#[118]⟩, 0, 0, false, false, ⟨#[102]⟩, 4, 4, 1, false, false, ⟨#[122]⟩, ⟨#[]⟩, ⟨#[99, 35, 49]⟩, ⟨#[]⟩, ⟨#[]⟩, 3, 0, 0⟩
abbrev mP : XObj := ⟨6, ⟨#[112]⟩, 0, 0, false, false, ⟨#[]⟩, 0, 0, 0, false, false, ⟨#[]⟩, ⟨#[109]⟩, ⟨#[99]⟩, ⟨#[]⟩, ⟨#[]⟩, 0, 0, 0⟩
abbrev mA (p w : Int) : XObj := ⟨5, ⟨#[118, 47, 108]⟩, 0, 0, false, false, ⟨#[]⟩, 0, 0, 0, false, false, ⟨#[]⟩, ⟨#[108]⟩, ⟨#[]⟩, ⟨#[118]⟩, ⟨#[]⟩, p, w, 0⟩
theorem m1 (v : Int) : attach_VolumeF [mC, mV, mP, mA 8 0] v (⟨#[118]⟩ : ByteArray) = ⟨1, mA 9 (IntKind.u64.wrap (v + 1)), default⟩ := by kernel_rfl
theorem m2 (v w : Int) : attach_VolumeF [mC, mV, mP, mA 9 w] v (⟨#[118]⟩ : ByteArray) = ⟨3, default, ⟨4, ⟨#[118]⟩, w, 0, ⟨#[]⟩, ⟨#[108]⟩, ⟨#[]⟩⟩⟩ := by kernel_rfl
theorem m3 (v w : Int) (r : XRes) : (attach_AfterF [mC, mV, mP, mA 9 w] v (⟨4, ⟨#[118]⟩, w, 0, ⟨#[]⟩, ⟨#[108]⟩, ⟨#[]⟩⟩ : XCall) r).act = cond (r.err == 9) 1 (cond (r.err == 0) 2 0) := by
  unfold attach_AfterF
  dsimp only
  rw [m2]
  simp only [beq_self_eq_true, decide_true, Bool.and_true, Bool.not_true, cond_false]
  cases r.err == (9 : Int) <;> cases r.err == (5 : Int) <;> cases r.err == (0 : Int) <;> rfl
theorem m4 (v : Int) : attach_VolumeF [mC, mV, mP] v (⟨#[118]⟩ : ByteArray) = ⟨1, ⟨5, ⟨#[118, 47, 109]⟩, 0, 0, false, false, ⟨#[]⟩, 0, 0, 0, false, false, ⟨#[]⟩, ⟨#[109]⟩, ⟨#[]⟩, ⟨#[118]⟩, ⟨#[]⟩, 7, IntKind.u64.wrap (v + 1), 0⟩, default⟩ := by kernel_rfl
theorem topMoves (v : Int) : t_TopMovesF v = true := by
  unfold t_TopMovesF
  rw [show ∀ w, attach_VolumeF [mC, mV, mP, mA 8 0] w (⟨#[118]⟩ : ByteArray) = ⟨1, mA 9 (IntKind.u64.wrap (w + 1)), default⟩ from m1]
  dsimp only
  rw [m2, m4]
  dsimp only
  rw [m3, m3]
  have e : (IntKind.u64.wrap (IntKind.u64.wrap (IntKind.u64.wrap v + 2) + 1) == IntKind.u64.wrap (IntKind.u64.wrap v + 3)) = true := by
    rw [beq_iff_eq]
    simp only [IntKind.wrap_u64]
    omega
  rw [e]
  rfl
end Go.Proofs.Ytbcnehpndoghcaa
