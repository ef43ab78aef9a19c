/- Leases: LeaseGuards, the plain law. -/
import Derived.Test.YtofimhodpemmiaaGuards
namespace Go.Proofs.Ytofimhodpemmiaa
open Go Go.Eng
theorem last_le {l : List Int} {b : Int} : ∀ {m : Int}, m ≤ b → (∀ x ∈ l, x ≤ b) → l.foldl (fun m x => if x > m then x else m) m ≤ b := by
  induction l with
  | nil => intro m h _; exact h
  | cons x l ih =>
    intro m h hl
    rw [List.foldl_cons]
    refine ih ?_ fun y hy => hl y (List.mem_cons_of_mem _ hy)
    split
    · exact hl x List.mem_cons_self
    · exact h
theorem guards_true (l : List Int) (h : ∀ x ∈ l, x ≤ 18446744073709551615) : guardsF l = true := by
  have hb : lastF l 0 0 ≤ 18446744073709551615 := last_le (by decide) fun x hx => h x (List.mem_of_mem_take (List.mem_of_mem_drop hx))
  unfold guardsF
  rw [live_true]
  generalize lastF l 0 0 = m at hb
  have h1 : ¬ m > 18446744073709551615 := by omega
  simp [forkF, checkF, termF, h1]
end Go.Proofs.Ytofimhodpemmiaa
