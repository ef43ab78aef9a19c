/- The calls, plainly: deeds on both clients; what a client holds. -/
import Derived.Test.YtkledlcmhbjadaaGreatDCallPlay
set_option linter.unusedVariables false
set_option linter.unusedSimpArgs false
set_option maxRecDepth 100000
namespace Go.Proofs.YtkledlcmhbjadaaGreat
open Go Go.Eng
theorem cplayL_ok (l : List XDeed2) (hl : ∀ x ∈ l, D2 x) : ∀ (g i : Nat) (p r : LK) (b1 : LA) (b2 : LB) (b3 : LC) (b4 : LD) (z : LZ) (v : LV) (s : LS) (q : LQ), i + g = 50 → IC i p r b1 b2 b3 b4 z v s q →
  ∃ p' r' b1' b2' b3' b4' z' v' s' q', (Z19 l (g + 1) i p r b1 b2 b3 b4 z v s q).1 = false ∧ (Z19 l (g + 1) i p r b1 b2 b3 b4 z v s q).2.2.2.2.2.2.2.2.2.2.2 = (p', r', b1', b2', b3', b4', z', v', s', q') ∧ IC 50 p' r' b1' b2' b3' b4' z' v' s' q'
 | 0, i, p, r, b1, b2, b3, b4, z, v, s, q, hi, h => by
  unfold Z19
  have : cond (decide ((i : Int) < (l.length : Int))) (decide ((i : Int) < (50 : Int))) false = false := by
   rw [decide_eq_false (by omega : ¬ (i : Int) < 50)]
   cases decide ((i : Int) < (l.length : Int)) <;> rfl
  rw [this]
  exact ⟨_, _, _, _, _, _, _, _, _, _, rfl, rfl, h.mono (by omega)⟩
 | g + 1, i, p, r, b1, b2, b3, b4, z, v, s, q, hi, h => by
  unfold Z19
  cases hc : cond (decide ((i : Int) < (l.length : Int))) (decide ((i : Int) < (50 : Int))) false with
  | false => exact ⟨_, _, _, _, _, _, _, _, _, _, rfl, rfl, h.mono (by omega)⟩
  | true =>
   obtain ⟨h1, h2⟩ := cdo_ok h (l.getD i default) (hl _ (Z172 (Z127 hc).1))
   simp only [cond_true, h1, Bool.not_true, cond_false]
   exact cplayL_ok l hl g (i + 1) _ _ _ _ _ _ _ _ _ _ (by omega) h2
theorem cplay_ok (l : List XDeed2) (hl : ∀ x ∈ l, D2 x) : ∃ p r b1 b2 b3 b4 z v s q, Z1 l = (true, p, r, b1, b2, b3, b4, z, v, s, q) ∧ IC 50 p r b1 b2 b3 b4 z v s q := by
 obtain ⟨p, r, b1, b2, b3, b4, z, v, s, q, e1, e2, e3⟩ := cplayL_ok l hl 50 0 _ _ _ _ _ _ _ _ _ _ (by omega) cnew_ic
 refine ⟨p, r, b1, b2, b3, b4, z, v, s, q, ?_, e3⟩
 unfold Z1
 rw [e1, e2]
 rfl
def PC (k : Nat) (p : LK) (b1 : LA) (b2 : LB) (b3 : LC) (b4 : LD) : Prop := ∃ r z v s q, IC k p r b1 b2 b3 b4 z v s q
section
variable {k : Nat} {p : LK} {b1 : LA} {b2 : LB} {b3 : LC} {b4 : LD}
theorem PC.mono {m : Nat} (h : PC k p b1 b2 b3 b4) (hm : k ≤ m) : PC m p b1 b2 b3 b4 := by obtain ⟨r, z, v, s, q, h⟩ := h; exact ⟨r, z, v, s, q, h.mono hm⟩
theorem PC.len (h : PC k p b1 b2 b3 b4) (hk : k ≤ 1000) : p.length ≤ 1000000 := by obtain ⟨_, _, _, _, _, h⟩ := h; exact Nat.le_trans h.2.2.1 (by omega)
theorem PC.cs (h : PC k p b1 b2 b3 b4) (_ : k ≤ 1000) : ∀ x ∈ p, CS x := by obtain ⟨_, _, _, _, _, h⟩ := h; exact h.2.2.2
end
theorem Z275 {l : List XDeed2} (hl : ∀ x ∈ l, D2 x) : IC 1000 (Z1 l).2.1 (Z1 l).2.2.1 (Z1 l).2.2.2.1 (Z1 l).2.2.2.2.1 (Z1 l).2.2.2.2.2.1 (Z1 l).2.2.2.2.2.2.1 (Z1 l).2.2.2.2.2.2.2.1 (Z1 l).2.2.2.2.2.2.2.2.1 (Z1 l).2.2.2.2.2.2.2.2.2.1 (Z1 l).2.2.2.2.2.2.2.2.2.2 := by
 obtain ⟨p, r, b1, b2, b3, b4, z, v, s, q, e, h⟩ := cplay_ok l hl
 rw [e]
 exact h.mono (by omega)
theorem clive_true : Z114 = true := by
 have h := (Z1f4 (Z1f4 cnew_ic lv_cs (o := 2) (by decide)).2 lv_cs (o := 0) (by decide)).2
 have e := Z12d h.1.1
 unfold Z114
 simp only [kCp1, kCp0, kCp2, Z22]
 rw [e]
 show _ = true
 kernel_rfl
end Go.Proofs.YtkledlcmhbjadaaGreat
