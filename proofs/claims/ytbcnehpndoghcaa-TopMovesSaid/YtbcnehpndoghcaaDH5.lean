/- Attach: by hand: the few. -/
import Derived.Test.YtbcnehpndoghcaaDLive
set_option linter.unusedVariables false
set_option linter.unusedSimpArgs false
set_option maxRecDepth 100000
namespace Go.Proofs.Ytbcnehpndoghcaa
open Go Go.Eng
theorem w13_few_len (l : List XObj) : (w13_fewF l).length ≤ 24 := by
  unfold w13_fewF
  by_cases h : (l.length : Int) > 24
  · rw [decide_eq_true h, cond_true]; simp; omega
  · rw [decide_eq_false h, cond_false]; omega
theorem w13_few_sub (l : List XObj) : ∀ o ∈ w13_fewF l, o ∈ l := by
  unfold w13_fewF
  by_cases h : (l.length : Int) > 24
  · rw [decide_eq_true h, cond_true]; intro o ho; rw [List.drop_zero] at ho; exact List.mem_of_mem_take ho
  · rw [decide_eq_false h, cond_false]; exact fun o ho => ho
theorem w13_few_fine {l : List XObj} (h : ∀ o ∈ l, o.Fine) : ∀ o ∈ w13_fewF l, o.Fine := fun o ho => h o (w13_few_sub l o ho)
end Go.Proofs.Ytbcnehpndoghcaa
