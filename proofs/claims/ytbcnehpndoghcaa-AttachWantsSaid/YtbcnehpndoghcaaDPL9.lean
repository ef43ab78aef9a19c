/- Attach: plain laws: where a volume is wanted, its attachments: as the document says. -/
import Derived.Test.YtbcnehpndoghcaaDPL5
import Derived.Test.YtbcnehpndoghcaaDLawF
set_option linter.unusedVariables false
set_option linter.unusedSimpArgs false
set_option maxRecDepth 100000
namespace Go.Proofs.Ytbcnehpndoghcaa
open Go Go.Eng
theorem sameL1_self (a : List XVol) (i : Nat) (vs : List ByteArray) (hv : (a.getD i default).nodes = vs) : ∀ (l : List ByteArray) (j : Nat), vs.drop j = l → r10_SameVolumesL1F a i l j = false
  | [], j, _ => rfl
  | o :: r, j, h => by
    have hj : j < vs.length := by
      rcases Nat.lt_or_ge j vs.length with q | q
      · exact q
      · rw [List.drop_eq_nil_of_le q] at h; cases h
    rw [List.drop_eq_getElem_cons hj] at h
    obtain ⟨h1, h2⟩ := List.cons.inj h
    unfold r10_SameVolumesL1F
    have hg : vs.getD j default = o := by rw [List.getD_eq_getElem?_getD, List.getElem?_eq_getElem hj]; exact h1
    rw [hv, hg, decide_eq_true rfl, Bool.not_true, cond_false]
    exact sameL1_self a i vs hv r (j + 1) h2
theorem sameNodes_self (a : List ByteArray) : w13_sameNodesF a a = true := by
  unfold w13_sameNodesF r10_SameVolumesF r10_SameVolumesLF
  rw [sameL1_self [(⟨(⟨#[]⟩ : ByteArray), (0 : Int), (⟨#[]⟩ : ByteArray), (0 : Int), a⟩ : XVol)] 0 a rfl a 0 rfl]
  simp [r10_SameVolumesLF]
theorem sameO_self (a : List XObj) : ∀ (l : List XObj) (i : Nat), a.drop i = l → r06_SameLF a l i = false
  | [], i, _ => rfl
  | o :: r, i, h => by
    obtain ⟨_, h1, h2⟩ := drop_cons h
    unfold r06_SameLF
    rw [h1, sameO_self a r (i + 1) h2]
    simp
theorem attachWants (l : List XObj) (n : ByteArray) : w13_AttachWantsF l n = true := by
  have hl : (w13_fewF l).length ≤ 64 := Nat.le_trans (w13_few_len l) (by decide)
  unfold w13_AttachWantsF
  rw [live_true, wanted_eq _ n hl, (atts_both _ n hl).1, sameNodes_self]
  unfold r06_SameF
  rw [sameO_self _ _ 0 List.drop_zero]
  simp
end Go.Proofs.Ytbcnehpndoghcaa
