/- The calls, plainly: the law CallOnce. -/
import Derived.Test.YtpffbkbadnhmmaaDLawCallOnce
import Derived.Test.YtpffbkbadnhmmaaDPLW0
set_option linter.unusedVariables false
set_option linter.unusedSimpArgs false
set_option maxRecDepth 100000
namespace Go.Proofs.Ytpffbkbadnhmmaa
open Go Go.Eng
section
variable {x : XCall} {b1 : LA} {b2 : LB} {b3 : LC} {b4 : LD}
def OS (x : XCall) (b1 : LA) (b2 : LB) (b3 : LC) (b4 : LD) (c1 : LA) (c2 : LB) (c3 : LC) (c4 : LD) : Prop :=
 (c1, c2, c3, c4) = (b1, b2, b3, b4) ∨ (c1, c2, c3, c4) = (Z1a x b1 b2 b3 b4).2
theorem OS.do_ {c1 : LA} {c2 : LB} {c3 : LC} {c4 : LD} (h : OS x b1 b2 b3 b4 c1 c2 c3 c4) : Z1a x c1 c2 c3 c4 = Z1a x b1 b2 b3 b4 := by
 rcases h with h | h
 · simp only [Prod.mk.injEq] at h
   obtain ⟨rfl, rfl, rfl, rfl⟩ := h
   rfl
 · have e1 : c1 = (Z1a x b1 b2 b3 b4).2.1 := congrArg Prod.fst h
   have e2 : c2 = (Z1a x b1 b2 b3 b4).2.2.1 := congrArg (fun y => y.2.1) h
   have e3 : c3 = (Z1a x b1 b2 b3 b4).2.2.2.1 := congrArg (fun y => y.2.2.1) h
   have e4 : c4 = (Z1a x b1 b2 b3 b4).2.2.2.2 := congrArg (fun y => y.2.2.2) h
   rw [e1, e2, e3, e4]
   exact do_again
theorem once_bad (hR : Z12 x = false) (m : List Bool) : ∀ (g i : Nat) (p : LK), Z15 x m (g + 1) i p b1 b2 b3 b4 = (p, b1, b2, b3, b4) ∨ g < 10 - i
 | 0, i, p => by
  unfold Z15
  cases hc : cond (decide ((i : Int) < (m.length : Int))) (decide ((i : Int) < (10 : Int))) false with
  | false => exact .inl rfl
  | true => exact .inr (by have := (Z1e1 hc).2; omega)
 | g + 1, i, p => by
  unfold Z15
  cases hc : cond (decide ((i : Int) < (m.length : Int))) (decide ((i : Int) < (10 : Int))) false with
  | false => exact .inl rfl
  | true =>
   simp only [csend_bad hR, cond_true]
   rcases once_bad hR m g (i + 1) p with h | h
   · left
     cases m.getD i default <;> exact h
   · right
     omega
theorem once_ok (hR : Z12 x = true) (m : List Bool) : ∀ (g i : Nat) (p : LK) (c1 : LA) (c2 : LB) (c3 : LC) (c4 : LD), i + g = 10 → p.length ≤ 50 + i → OS x b1 b2 b3 b4 c1 c2 c3 c4 →
  (Z15 x m (g + 1) i p c1 c2 c3 c4).1.length ≤ 60 ∧ OS x b1 b2 b3 b4 (Z15 x m (g + 1) i p c1 c2 c3 c4).2.1 (Z15 x m (g + 1) i p c1 c2 c3 c4).2.2.1 (Z15 x m (g + 1) i p c1 c2 c3 c4).2.2.2.1 (Z15 x m (g + 1) i p c1 c2 c3 c4).2.2.2.2
 | 0, i, p, c1, c2, c3, c4, hi, hp, h => by
  unfold Z15
  have : cond (decide ((i : Int) < (m.length : Int))) (decide ((i : Int) < (10 : Int))) false = false := by
   rw [decide_eq_false (by omega : ¬ (i : Int) < 10)]
   cases decide ((i : Int) < (m.length : Int)) <;> rfl
  rw [this]
  exact ⟨by show p.length ≤ 60; omega, h⟩
 | g + 1, i, p, c1, c2, c3, c4, hi, hp, h => by
  unfold Z15
  cases hc : cond (decide ((i : Int) < (m.length : Int))) (decide ((i : Int) < (10 : Int))) false with
  | false => exact ⟨by show p.length ≤ 60; omega, h⟩
  | true =>
   have hl : p.length < 4096 := by omega
   have hp1 : (p ++ [x]).length ≤ 50 + (i + 1) := by simp only [List.length_append, List.length_cons, List.length_nil]; omega
   simp only [csend_2 hR hl, csend_3 hR hl, cond_true]
   cases m.getD i default with
   | true =>
    refine once_ok hR m g (i + 1) _ _ _ _ _ (by omega) hp1 (.inr ?_)
    rw [h.do_]
   | false => exact once_ok hR m g (i + 1) _ _ _ _ _ (by omega) hp1 h
end
theorem conce_true {l : List XDeed2} (hl : ∀ x ∈ l, D2 x) (x : XCall) (m : List Bool) : Z99 l x m = true := by
 unfold Z99
 obtain ⟨p, r, b1, b2, b3, b4, z, v, s, q, e, h⟩ := cplay_ok l hl
 have hp : p.length ≤ 50 := h.2.2.1
 simp only [kCo0, kCo1, kCo2, clive_true, e, Z18]
 cases hR : Z12 x with
 | false =>
  rcases once_bad (b1 := b1) (b2 := b2) (b3 := b3) (b4 := b4) hR m 10 0 p with k | k
  · rw [show (10 + 1) = 10 + 1 from rfl, k]
    simp only [csend_bad hR, Z13a]
    simp
  · omega
 | true =>
  obtain ⟨k1, k2⟩ := once_ok (x := x) (b1 := b1) (b2 := b2) (b3 := b3) (b4 := b4) hR m 10 0 p b1 b2 b3 b4 rfl (by omega) (.inl rfl)
  generalize Z15 x m (10 + 1) 0 p b1 b2 b3 b4 = y at k1 k2 ⊢
  simp only [csend_0 hR (show y.1.length < 4096 by omega), csend_0 hR (show p.length < 4096 by omega), k2.do_, Z13a]
  simp
end Go.Proofs.Ytpffbkbadnhmmaa
