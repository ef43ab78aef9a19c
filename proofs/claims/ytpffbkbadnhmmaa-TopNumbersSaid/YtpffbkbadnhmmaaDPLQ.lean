/- The driver, plainly: the law TopNumbers. -/
import Derived.Test.YtpffbkbadnhmmaaDLawNumbers
set_option linter.unusedVariables false
set_option linter.unusedSimpArgs false
set_option maxRecDepth 100000
namespace Go.Proofs.Ytpffbkbadnhmmaa
open Go Go.Eng
theorem num_end {m : Int} (hm : 1 ≤ m ∧ m ≤ 9) {b1 : List (ByteArray × Int)} {b2 : List (ByteArray × XVn)} {b3 : List (ByteArray × XSn)} {b4 : List (XTgt × XDone)} (h : IV 100 b1 b2 b3 b4 stZ (stV m) [] (stQ m)) :
  dD_VolumesF b1 b2 b3 b4 = stV m ∧ dD_SeenF 3 (⟨#[118]⟩ : ByteArray) b1 b2 b3 b4 = m := ⟨Volumes_R h.1, by rw [Seen_R h.1]; exact num_seen hm⟩
theorem numbers_true (a0 : List Int) (ha : ∀ x ∈ a0, 0 ≤ x ∧ x ≤ 255) : t_TopNumbersF a0 = true := by
 obtain ⟨hr, h1⟩ := iv_do (new_iv num_zv) numC
 rw [num_start] at hr h1
 obtain ⟨m, c1, c2, c3, c4, e, hm, h2⟩ := numL_ok a0 ha 60 1 0 _ _ _ _ rfl ⟨by decide, by decide⟩ h1
 obtain ⟨ev, es⟩ := num_end hm h2
 unfold t_TopNumbersF
 generalize hD : dD_DoF numC (driver_NewF numZ).2.1 (driver_NewF numZ).2.2.1 (driver_NewF numZ).2.2.2.1 (driver_NewF numZ).2.2.2.2 = D at hr e
 obtain ⟨R, d1, d2, d3, d4⟩ := D
 replace hr : R = ⟨0, 3, (⟨#[97]⟩ : ByteArray), 0⟩ := hr
 subst hr
 simp only [beq_self_eq_true, Bool.not_true, cond_false]
 rw [show (60 + 1 : Nat) = 61 from rfl] at e ⊢
 simp only [] at e
 rw [e]
 simp only [cond_false]
 rw [ev, es]
 have h1 : m = 1 ∨ m = 2 ∨ m = 3 ∨ m = 4 ∨ m = 5 ∨ m = 6 ∨ m = 7 ∨ m = 8 ∨ m = 9 := by omega
 rcases h1 with rfl | rfl | rfl | rfl | rfl | rfl | rfl | rfl | rfl <;> rfl
end Go.Proofs.Ytpffbkbadnhmmaa
