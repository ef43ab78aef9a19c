/- By hand: who fails again and again is tried again and again. -/
import Derived.Test.YtbjifeobhenkfaaDLawTries
set_option linter.unusedVariables false
set_option linter.unusedSimpArgs false
set_option maxRecDepth 100000
namespace Go.Proofs.Ytbjifeobhenkfaa
open Go Go.Eng
theorem triesL_ok : ∀ (g i : Nat) (v1 v3 : Int) (v5 : List (XKey × XSn)) (v6 : List (XKey × Int)), QI i v1 v5 v6 → i + g ≤ 255 →
  ∃ v1' v3' v6', t_TopTriesLF g v1 i v3 v5 v6 = (false, v1', v3', [], v6') ∧ 0 ≤ v1' ∧ v1' ≤ 20000 ∧ FK v6'
 | 0, i, v1, v3, v5, v6, h, hi => by
  have hn := h.now
  obtain ⟨_, rfl, _, _, hf⟩ := h
  exact ⟨v1, v3, v6, rfl, hn.1, hn.2, hf⟩
 | g + 1, i, v1, v3, v5, v6, h, hi => by
  have hs := tries_step (n := v3) h (by omega)
  obtain ⟨d, x, h1, h2, h3, h4, e1, e2, e3, e4⟩ := tries_round (n := v3) h
  have hn := h.now
  unfold t_TopTriesLF
  rw [e1] at hs ⊢
  simp only at hs ⊢
  rw [e2] at hs ⊢
  simp only at hs ⊢
  rw [e3] at hs ⊢
  simp only at hs ⊢
  rw [e4] at hs ⊢
  rw [wrap_u64 (by omega) (by omega), decide_eq_false (by omega), decide_eq_false (by omega)]
  exact triesL_ok g (i + 1) _ _ _ _ hs (by omega)
theorem tries_true {a : Int} (ha : 0 ≤ a ∧ a ≤ 255) : t_TopTriesF a = true := by
 have hw : IntKind.i64.wrap a = a := wrap_i64 (by omega) (by omega)
 obtain ⟨v1, v3, v6, e, h1, h2, h3⟩ := triesL_ok (IntKind.i64.wrap a).toNat 0 0 (workq_NewF).1 _ _ qi_zero (by rw [hw]; omega)
 unfold t_TopTriesF
 rw [e]
 simp only
 obtain ⟨d, x, g1, g2, g3, g4, g5⟩ := fail_at (n := v3) ⟨h1, h2⟩ h3
 rw [g5]
 have hx : workq_Queue_FailsF KC (IntKind.i64.wrap (v3 + 1)) [(KC, ⟨IntKind.i64.wrap (v3 + 1), v1 + d⟩)] [(KC, x)] = x := rfl
 rw [hx]
 simp only [workq_Queue_LenF]
 rw [decide_eq_true (show x > 0 by omega)]
 rfl
end Go.Proofs.Ytbjifeobhenkfaa
