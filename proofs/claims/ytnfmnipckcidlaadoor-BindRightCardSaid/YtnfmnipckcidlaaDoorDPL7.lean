/- Binding: plain laws: what is right stays right. -/
import Derived.Test.YtnfmnipckcidlaaDoorDPL4
import Derived.Test.YtnfmnipckcidlaaDoorDRight
set_option linter.unusedVariables false
set_option linter.unusedSimpArgs false
set_option maxRecDepth 100000
namespace Go.Proofs.YtnfmnipckcidlaaDoor
open Go Go.Eng
/-- A right claim. -/
def R3 (o : XObj) : Prop := r03_NameF o.name = true ∧ o.keep = false ∧ o.wait = false ∧ o.claim = (⟨#[]⟩ : ByteArray) ∧ o.tag = 0 ∧ r03_maybeF o.cls = true ∧ r03_maybeF o.zone = true ∧ r03_maybeF o.node = true ∧ r03_maybeF o.volume = true ∧ r03_maybeF o.source = true
  ∧ 0 ≤ o.size ∧ o.size ≤ 1125899906842624 ∧ 0 ≤ o.got ∧ o.got ≤ 1125899906842624 ∧ o.cls ≠ (⟨#[]⟩ : ByteArray) ∧ o.size ≠ 0 ∧ (o.mode = 1 ∨ o.mode = 2) ∧ (o.phase = 1 ∨ o.phase = 2 ∨ o.phase = 3) ∧ (o.volume ≠ (⟨#[]⟩ : ByteArray) ↔ o.phase = 3)
/-- A right volume. -/
def R4 (o : XObj) : Prop := r03_NameF o.name = true ∧ o.wait = false ∧ o.node = (⟨#[]⟩ : ByteArray) ∧ o.volume = (⟨#[]⟩ : ByteArray) ∧ o.source = (⟨#[]⟩ : ByteArray) ∧ o.tag = 0 ∧ r03_maybeF o.cls = true ∧ r03_maybeF o.zone = true ∧ r03_maybeF o.claim = true
  ∧ 0 ≤ o.size ∧ o.size ≤ 1125899906842624 ∧ 0 ≤ o.got ∧ o.got ≤ 1125899906842624 ∧ o.cls ≠ (⟨#[]⟩ : ByteArray) ∧ o.zone ≠ (⟨#[]⟩ : ByteArray) ∧ o.size ≠ 0 ∧ o.got ≠ 0 ∧ (o.mode = 1 ∨ o.mode = 2) ∧ (o.phase = 4 ∨ o.phase = 3 ∨ o.phase = 5 ∨ o.phase = 6) ∧ (o.claim ≠ (⟨#[]⟩ : ByteArray) ∨ (o.phase ≠ 3 ∧ o.phase ≠ 5))
theorem maybe_empty : r03_maybeF (⟨#[]⟩ : ByteArray) = true := rfl
theorem cond_and (a b : Bool) : cond a b false = (a && b) := by cases a <;> rfl
theorem cond_or (a b : Bool) : cond a true b = (a || b) := by cases a <;> rfl
theorem cond_not (a b : Bool) : cond a false b = (!a && b) := by cases a <;> rfl
theorem right3 (o : XObj) (h : o.kind = 3) : r03_RightF o = true ↔ R3 o := by
  obtain ⟨k, nm, ve, bo, de, ho, cl, sz, go, mo, ke, wa, zo, nd, cm, vo, so, ph, nu, tg⟩ := o
  dsimp only at h
  subst h
  unfold r03_RightF R3
  simp only [r03_bareF, cond_and, cond_or, cond_not, beq_self_eq_true, cond_true, show ((3 : Int) == 1) = false from rfl, show ((3 : Int) == 2) = false from rfl, cond_false, decide_true, Bool.and_true, Bool.true_and, Bool.and_eq_true, Bool.not_eq_true', Bool.or_eq_false_iff, Bool.not_eq_false', decide_eq_false_iff_not, decide_eq_true_eq, beq_iff_eq, Bool.or_eq_true, Int.not_lt]
  have he := maybe_empty
  grind
theorem right4 (o : XObj) (h : o.kind = 4) : r03_RightF o = true ↔ R4 o := by
  obtain ⟨k, nm, ve, bo, de, ho, cl, sz, go, mo, ke, wa, zo, nd, cm, vo, so, ph, nu, tg⟩ := o
  dsimp only at h
  subst h
  unfold r03_RightF R4
  simp only [r03_bareF, cond_and, cond_or, cond_not, beq_self_eq_true, cond_true, show ((4 : Int) == 1) = false from rfl, show ((4 : Int) == 2) = false from rfl, show ((4 : Int) == 3) = false from rfl, cond_false, decide_true, Bool.and_true, Bool.true_and, Bool.and_eq_true, Bool.not_eq_true', Bool.or_eq_false_iff, Bool.not_eq_false', decide_eq_false_iff_not, decide_eq_true_eq, beq_iff_eq, Bool.or_eq_true, Int.not_lt]
  have he := maybe_empty
  grind
#print axioms right3
end Go.Proofs.YtnfmnipckcidlaaDoor
