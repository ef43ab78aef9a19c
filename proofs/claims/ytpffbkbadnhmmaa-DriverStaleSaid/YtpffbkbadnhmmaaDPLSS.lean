/- The driver, plainly: the law DriverStale. -/
import Derived.Test.YtpffbkbadnhmmaaDLawStale
import Derived.Test.YtpffbkbadnhmmaaDPLS0
set_option linter.unusedVariables false
set_option linter.unusedSimpArgs false
set_option maxRecDepth 100000
namespace Go.Proofs.Ytpffbkbadnhmmaa
open Go Go.Eng
theorem right_num {c : XCall} (h : Z11 c = true) : c.num ≠ 0 := by
 intro e
 unfold Z11 at h
 rw [e] at h
 revert h
 cases Z15 c.target <;> simp
theorem stale_true {n0 n1 n2 : Int} (h0 : U8 n0) (h1 : U8 n1) (h2 : U8 n2) (l : List XDeed) (c : XCall) (hn : 0 ≤ c.num) : Z2e n0 n1 n2 l c = true := by
 unfold Z2e
 obtain ⟨b1, b2, b3, b4, z, v, s, q, e, _, _⟩ := play_ok stays_true h0 h1 h2 trivial l
 simp only [live_true, e, seen_eq]
 have hd := do_cases c b1 b2 b3 b4
 generalize Zb c b1 b2 b3 b4 = x at hd
 cases hd with
 | form h =>
  rw [h, alike_self]
  rfl
 | full h hp hl =>
  rw [h, alike_self, hp]
  show cond (decide (c.num < 0)) _ (cond (c.num == 0) true (cond true true _)) = true
  rw [decide_eq_false (by omega : ¬ c.num < 0)]
  cases c.num == 0 <;> rfl
 | stale h p hp hl =>
  rw [h, alike_self, hp]
  show cond (decide (c.num < p.c.num)) (cond (cond _ true false) (p.c.num == p.c.num) false) _ = true
  rw [decide_eq_true hl, beq_self_eq_true]
  rfl
 | again h p hp hl =>
  rw [h, alike_self, hp]
  show cond (decide (c.num < p.c.num)) _ (cond (c.num == p.c.num) true _) = true
  rw [hl, decide_eq_false (Int.lt_irrefl _)]
  simp
 | other h p hp hl hc =>
  rw [h, alike_self, hp]
  show cond (decide (c.num < p.c.num)) _ (cond (c.num == p.c.num) true _) = true
  rw [hl, decide_eq_false (Int.lt_irrefl _)]
  simp
 | new h hp r hr =>
  have hz := right_num h
  have hs : ((aget b4 (tgtOf c)).getD default).c.num < c.num := by
   cases hg : aget b4 (tgtOf c) with
   | none => show (0 : Int) < c.num; omega
   | some p => exact hp p hg
  have ha : aget (aset b4 (tgtOf c) ⟨c, r⟩) (tgtOf c) = some ⟨c, r⟩ := by rw [aget_aset, if_pos rfl]
  rw [h]
  simp only [ha, Option.getD_some, beq_self_eq_true]
  rw [decide_eq_false (by omega : ¬ c.num < ((aget b4 (tgtOf c)).getD default).c.num), beq_eq_false_iff_ne.2 (by omega : c.num ≠ ((aget b4 (tgtOf c)).getD default).c.num)]
  simp
end Go.Proofs.Ytpffbkbadnhmmaa
