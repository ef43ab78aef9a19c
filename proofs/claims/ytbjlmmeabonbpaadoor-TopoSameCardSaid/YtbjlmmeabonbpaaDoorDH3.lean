/- Topo: by hand: what is said is within bounds. -/
import Derived.Test.YtbjlmmeabonbpaaDoorDLabels
import Derived.Test.YtbjlmmeabonbpaaDoorDRLabels
import Derived.Test.YtbjlmmeabonbpaaDoorDMatch
import Derived.Test.YtbjlmmeabonbpaaDoorDSame
set_option linter.unusedVariables false
set_option linter.unusedSimpArgs false
set_option maxRecDepth 100000
namespace Go.Proofs.YtbjlmmeabonbpaaDoor
open Go Go.Eng
theorem topo_ParseF_good (s : ByteArray) (h : s.size ≤ 4294967280) : (topo_ParseF s).2.length ≤ 4294967296 ∧ ∀ q ∈ (topo_ParseF s).2, q.Fine := by
  have hg := topo_Term_4_good s h
  unfold topo_ParseF
  generalize cond (!((topo_Term_4F s).1)) true (!(topo_rightF ((topo_Term_4F s).2))) = b
  cases b
  · exact hg
  · exact ⟨Nat.zero_le _, fun q hq => by simp at hq⟩
theorem topo_LabelsF_good (s : ByteArray) (h : s.size ≤ 4294967280) : (topo_LabelsF s).2.length ≤ 4294967296 ∧ ∀ q ∈ (topo_LabelsF s).2, q.Fine := by
  have hg := topo_Label_6_good s h
  unfold topo_LabelsF
  generalize cond (!((topo_Label_6F s).1)) true (!(topo_rightLabelsF ((topo_Label_6F s).2))) = b
  cases b
  · exact hg
  · exact ⟨Nat.zero_le _, fun q hq => by simp at hq⟩
theorem small_len {l : List XTerm} (h : w02_smallF l = true) : l.length ≤ 30 := by
  unfold w02_smallF at h
  cases h2 : decide ((l.length : Int) > (30 : Int)) with
  | true => rw [h2] at h; cases h
  | false =>
    have := of_decide_eq_false h2
    omega
theorem small_one {a : List XTerm} (h : (!(w02_smallF a)) = false) : a.length ≤ 30 := small_len (by simpa using h)
theorem small_lab {a : List XLabel} (h : decide ((a.length : Int) > (30 : Int)) = false) : a.length ≤ 30 := by
  have := of_decide_eq_false h
  omega
theorem small_two {a : List XTerm} {b : List XLabel} (h : cond (!(w02_smallF a)) true (decide ((b.length : Int) > (30 : Int))) = false) : a.length ≤ 30 ∧ b.length ≤ 30 := by
  cases h1 : (!(w02_smallF a)) with
  | true => rw [h1] at h; cases h
  | false => rw [h1] at h; exact ⟨small_one h1, small_lab h⟩
theorem small_four {a b : List XTerm} {c d : List XLabel} (h : cond (cond (cond (!(w02_smallF a)) true (!(w02_smallF b))) true (decide ((c.length : Int) > (30 : Int)))) true (decide ((d.length : Int) > (30 : Int))) = false) : a.length ≤ 30 ∧ b.length ≤ 30 ∧ c.length ≤ 30 ∧ d.length ≤ 30 := by
  cases h1 : (!(w02_smallF a)) with
  | true => rw [h1] at h; cases h
  | false =>
    rw [h1] at h
    cases h2 : (!(w02_smallF b)) with
    | true => rw [h2] at h; cases h
    | false =>
      rw [h2] at h
      have h3 := small_one h1
      have h4 := small_one h2
      cases h5 : decide ((c.length : Int) > (30 : Int)) with
      | true => rw [h5] at h; cases h
      | false => rw [h5] at h; exact ⟨h3, h4, small_lab h5, small_lab h⟩
theorem refTermsLF_eq : ∀ (l v : List XTerm), w02_refTermsLF l v = v ++ l
  | [], v => by unfold w02_refTermsLF; simp
  | o :: r, v => by
    unfold w02_refTermsLF
    rw [refTermsLF_eq r]
    simp
theorem refTerms_eq (l : List XTerm) : w02_refTermsF l = l := refTermsLF_eq l []
theorem refLabelsLF_eq : ∀ (l v : List XLabel), w02_refLabelsLF l v = v ++ l
  | [], v => by unfold w02_refLabelsLF; simp
  | o :: r, v => by
    unfold w02_refLabelsLF
    rw [refLabelsLF_eq r]
    simp
theorem refLabels_eq (l : List XLabel) : w02_refLabelsF l = l := refLabelsLF_eq l []
theorem r02_LabelsLF_len : ∀ (l : List XTerm) (v : List XLabel), (r02_LabelsLF l v).2.length ≤ v.length + l.length
  | [], v => by unfold r02_LabelsLF; exact Nat.le_refl _
  | o :: r, v => by
    unfold r02_LabelsLF
    cases (!(((o.values).length : Int) == (1 : Int))) with
    | true => exact Nat.zero_le _
    | false =>
      have := r02_LabelsLF_len r (v ++ [(⟨o.key, ((o.values).getD 0 default)⟩ : XLabel)])
      rw [List.length_append, List.length_cons, List.length_nil] at this
      rw [cond_false, List.length_cons]
      omega
theorem r02_LabelsF_len (s : ByteArray) (h : s.size ≤ 4294967280) : (r02_LabelsF s).2.length ≤ 4294967296 := by
  have hg := r02_LabelsLF_len (r02_ParseF s).2 []
  have h2 := (r02_ParseF_good s h).1
  rw [List.length_nil, Nat.zero_add] at hg
  unfold r02_LabelsF
  cases (!(((r02_ParseF s).1) == (0 : Int)))
  · rw [cond_false]
    cases (r02_LabelsLF ((r02_ParseF s).2) []).1
    · exact Nat.le_trans hg h2
    · exact Nat.zero_le _
  · exact Nat.zero_le _
end Go.Proofs.YtbjlmmeabonbpaaDoor
