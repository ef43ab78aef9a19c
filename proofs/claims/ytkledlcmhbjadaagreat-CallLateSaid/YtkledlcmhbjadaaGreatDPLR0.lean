/- The driver, plainly: what a call comes to, case by case; a call that is done again. -/
import Derived.Test.YtkledlcmhbjadaaGreatDPLF
set_option linter.unusedVariables false
set_option linter.unusedSimpArgs false
set_option maxRecDepth 100000
namespace Go.Proofs.YtkledlcmhbjadaaGreat
open Go Go.Eng
section
variable (c : XCall) (b1 : LA) (b2 : LB) (b3 : LC) (b4 : LD)
def errR (n : Int) : XRes := ⟨n, 0, ⟨#[]⟩, 0⟩
def cbeq (p : XCall) : Bool := ((p.verb == c.verb) && ((decide (p.target = c.target)) && ((p.num == c.num) && ((p.size == c.size) && ((decide (p.zone = c.zone)) && ((decide (p.node = c.node)) && (decide (p.source = c.source))))))))
theorem call_beq (p : XCall) : ((p.verb == c.verb) && ((decide (p.target = c.target)) && ((p.num == c.num) && ((p.size == c.size) && ((decide (p.zone = c.zone)) && ((decide (p.node = c.node)) && (decide (p.source = c.source)))))))) = cbeq c p := rfl
theorem cbeq_iff (p : XCall) : cbeq c p = true ↔ p = c := by
 unfold cbeq
 constructor
 · intro hb
   simp only [Bool.and_eq_true, beq_iff_eq, decide_eq_true_eq] at hb
   obtain ⟨h1, h2, h3, h4, h5, h6, h7⟩ := hb
   cases p; cases c
   simp only at h1 h2 h3 h4 h5 h6 h7
   subst h1; subst h2; subst h3; subst h4; subst h5; subst h6; subst h7
   rfl
 · rintro rfl
   simp
theorem cbeq_no {p : XCall} (h : p ≠ c) : cbeq c p = false := by
 cases hb : cbeq c p with
 | false => rfl
 | true => exact absurd ((cbeq_iff c p).1 hb) h
inductive DoC : XRes × LA × LB × LC × LD → Prop
 | form (h : Z15 c = false) : DoC (errR 2, b1, b2, b3, b4)
 | full (h : Z15 c = true) (hn : aget b4 (Z7f c) = none) (hl : 256 ≤ b4.length) : DoC (errR 7, b1, b2, b3, b4)
 | stale (h : Z15 c = true) (p : XDone) (hp : aget b4 (Z7f c) = some p) (hl : c.num < p.c.num) : DoC (errR 9, b1, b2, b3, b4)
 | again (h : Z15 c = true) (p : XDone) (hp : aget b4 (Z7f c) = some p) (hl : p.c = c) : DoC (p.r, b1, b2, b3, b4)
 | other (h : Z15 c = true) (p : XDone) (hp : aget b4 (Z7f c) = some p) (hl : p.c.num = c.num) (hc : p.c ≠ c) : DoC (errR 6, b1, b2, b3, b4)
 | new (h : Z15 c = true) (hp : ∀ p, aget b4 (Z7f c) = some p → p.c.num < c.num) (r : XRes) (hr : r = (Z1b c b1 b2 b3 b4).1 ∨ (Z1b c b1 b2 b3 b4).1.err ≠ 0 ∧ r = errR (Z1b c b1 b2 b3 b4).1.err) :
  DoC (r, (Z1b c b1 b2 b3 b4).2.1, (Z1b c b1 b2 b3 b4).2.2.1, (Z1b c b1 b2 b3 b4).2.2.2, aset b4 (Z7f c) ⟨c, r⟩)
theorem Z257 : DoC c b1 b2 b3 b4 (Z1e c b1 b2 b3 b4) := by
 unfold Z1e
 simp only [mget_tgt, mset_tgt, of_tgt, call_beq, cmp_lt, cmp_eq]
 cases hR : Z15 c with
 | false => exact .form hR
 | true =>
  simp only [Bool.not_true, cond_false]
  have last : (∀ p, aget b4 (Z7f c) = some p → p.c.num < c.num) → DoC c b1 b2 b3 b4 (cond (!((((Z1b c b1 b2 b3 b4).1).err) == (0 : Int)))
    ((⟨(((Z1b c b1 b2 b3 b4).1).err), (0 : Int), (⟨#[]⟩ : BA), (0 : Int)⟩ : XRes), (Z1b c b1 b2 b3 b4).2.1, (Z1b c b1 b2 b3 b4).2.2.1, (Z1b c b1 b2 b3 b4).2.2.2, (aset b4 (Z7f c) (⟨c, (⟨(((Z1b c b1 b2 b3 b4).1).err), (0 : Int), (⟨#[]⟩ : BA), (0 : Int)⟩ : XRes)⟩ : XDone)))
    (((Z1b c b1 b2 b3 b4).1), (Z1b c b1 b2 b3 b4).2.1, (Z1b c b1 b2 b3 b4).2.2.1, (Z1b c b1 b2 b3 b4).2.2.2, (aset b4 (Z7f c) (⟨c, ((Z1b c b1 b2 b3 b4).1)⟩ : XDone)))) := by
   intro hp
   cases he : ((Z1b c b1 b2 b3 b4).1.err == (0 : Int)) with
   | true => exact .new hR hp _ (.inl rfl)
   | false => exact .new hR hp (errR (Z1b c b1 b2 b3 b4).1.err) (.inr ⟨by simpa using he, rfl⟩)
  cases hp : aget b4 (Z7f c) with
  | none =>
   simp only [Option.isSome_none, Bool.not_false, cond_true, cond_false]
   by_cases hl : 256 ≤ b4.length
   · rw [decide_eq_true (by omega : (b4.length : Int) ≥ 256)]
     exact .full hR hp hl
   · rw [decide_eq_false (by omega : ¬ (b4.length : Int) ≥ 256)]
     exact last (by rw [hp]; nofun)
  | some p =>
   simp only [Option.isSome_some, Bool.not_true, cond_true, cond_false, Option.getD_some]
   by_cases h1 : c.num < p.c.num
   · rw [decide_eq_true h1]
     exact .stale hR p hp h1
   · rw [decide_eq_false h1]
     by_cases h2 : c.num = p.c.num
     · rw [beq_iff_eq.2 h2]
       by_cases h3 : p.c = c
       · rw [(cbeq_iff c p.c).2 h3]
         exact .again hR p hp h3
       · rw [cbeq_no c h3]
         exact .other hR p hp h2.symm h3
     · rw [beq_eq_false_iff_ne.2 h2]
       exact last (by rw [hp]; intro p' e; injection e with e; subst e; omega)
variable {c b1 b2 b3 b4}
end
end Go.Proofs.YtkledlcmhbjadaaGreat
