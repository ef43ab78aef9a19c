/- Topo. -/
import Derived.Test.YtbjlmmeabonbpaaDoorDLive
import Derived.Test.YtbjlmmeabonbpaaDoorDH4
set_option linter.unusedVariables false
set_option linter.unusedSimpArgs false
set_option maxRecDepth 100000
namespace Go.Proofs.YtbjlmmeabonbpaaDoor
open Go Go.Eng
noncomputable def E_w02_TopoPrints : Env := envOf (P := Tryd.prog) [w02_small_fact, w02_live_fact, topo_Print_fact, w02_refTerms_fact, r02_Print_fact, topo_PrintLabels_fact, w02_refLabels_fact, r02_PrintLabels_fact] [] [] ckf
def w02_TopoPrintsF (a0 : List XTerm) (a1 : List XLabel) : Bool :=
  cond (cond (!(w02_smallF a0)) true (decide ((a1.length : Int) > (30 : Int))))
    w02_liveF
    (cond (cond (cond (cond w02_liveF (decide (((topo_PrintF a0).1) = ((r02_PrintF (w02_refTermsF a0)).1))) false) (((topo_PrintF a0).2) == ((r02_PrintF (w02_refTermsF a0)).2)) false) (decide (((topo_PrintLabelsF a1).1) = ((r02_PrintLabelsF (w02_refLabelsF a1)).1))) false) (((topo_PrintLabelsF a1).2) == ((r02_PrintLabelsF (w02_refLabelsF a1)).2)) false)
def w02_TopoPrintsR (a0 : List XTerm) (a1 : List XLabel) : RT :=
  (.need [a0.length < 4611686018427387904]
    (.ask (cond (!(w02_smallF a0)) true (decide ((a1.length : Int) > (30 : Int))))
      (.leaf .ret ⟨slots 65 [(4, .bool w02_liveF)], []⟩ [])
      (.need [a0.length ≤ 4294967296, ∀ q ∈ a0, q.Fine]
        (.need [a0.length ≤ 4294967296]
          (.need [(w02_refTermsF a0).length ≤ 4294967296, ∀ q ∈ (w02_refTermsF a0), q.Fine]
            (.need [a1.length ≤ 4294967296, ∀ q ∈ a1, q.Fine]
              (.need [a1.length ≤ 4294967296]
                (.need [(w02_refLabelsF a1).length ≤ 4294967296, ∀ q ∈ (w02_refLabelsF a1), q.Fine]
                  (.leaf .ret ⟨slots 65 [(4, .bool (cond (cond (cond (cond w02_liveF (decide (((topo_PrintF a0).1) = ((r02_PrintF (w02_refTermsF a0)).1))) false) (((topo_PrintF a0).2) == ((r02_PrintF (w02_refTermsF a0)).2)) false) (decide (((topo_PrintLabelsF a1).1) = ((r02_PrintLabelsF (w02_refLabelsF a1)).1))) false) (((topo_PrintLabelsF a1).2) == ((r02_PrintLabelsF (w02_refLabelsF a1)).2)) false))], []⟩ [])))))))))
theorem w02_TopoPrintsF_tr (a0 : List XTerm) (a1 : List XLabel) (hp0 : a0.length < 4611686018427387904) (hp1 : a1.length < 4611686018427387904) (hp2 : ∀ q ∈ a0, q.Fine) (hp3 : ∀ q ∈ a1, q.Fine) : Tr Tryd.prog 0 (bodyOf Tryd.f6) (fnBegins Tryd.f6 [.coll ⟨.term, a0⟩, .coll ⟨.label, a1⟩] []) (fnEnds Tryd.prog Tryd.f6 (.bool (w02_TopoPrintsF a0 a1)) []) := by
  refine Tr_tree (kok _ _ _ _ _ _) (E := E_w02_TopoPrints) (L := noLoops) 60 9999 LoopsOk.none (w02_TopoPrintsR a0 a1) (by kernel_rfl) (by kernel_rfl) (by kernel_rfl) ?_
  unfold w02_TopoPrintsR
  refine ⟨need_cons (by (try have hs := small_two h0); (try have hs := small_one h0); (try have hs := small_lab h0); (try have hs := small_four h0); (try refine fun (_ : _ = _) => ?_); (try refine fun (_ : _ ∧ _) => ?_); (try simp only [refTerms_eq, refLabels_eq]); first | assumption | omega | (constructor <;> omega) | exact Nat.zero_le _ | (intro q hq; simp at hq; done) | decide) (need_nil), ?_⟩
  refine ⟨fun h0 => ?_, fun h0 => ?_⟩
  · have hF : w02_TopoPrintsF a0 a1 = w02_liveF := by first | exact (cond_t h0 rfl) | simp only [w02_TopoPrintsF, h0, cond_true, cond_false]
    exact ⟨trivial, .inl (by first | (rw [hF]; kernel_rfl) | kernel_rfl), by first | (rw [hF]; kernel_rfl) | kernel_rfl⟩
  · refine ⟨need_cons (by (try have hs := small_two h0); (try have hs := small_one h0); (try have hs := small_lab h0); (try have hs := small_four h0); (try refine fun (_ : _ = _) => ?_); (try refine fun (_ : _ ∧ _) => ?_); (try simp only [refTerms_eq, refLabels_eq]); first | assumption | omega | (constructor <;> omega) | exact Nat.zero_le _ | (intro q hq; simp at hq; done) | decide) (need_cons (by (try have hs := small_two h0); (try have hs := small_one h0); (try have hs := small_lab h0); (try have hs := small_four h0); (try refine fun (_ : _ = _) => ?_); (try refine fun (_ : _ ∧ _) => ?_); (try simp only [refTerms_eq, refLabels_eq]); first | assumption | omega | (constructor <;> omega) | exact Nat.zero_le _ | (intro q hq; simp at hq; done) | decide) (need_nil)), ?_⟩
    refine ⟨need_cons (by (try have hs := small_two h0); (try have hs := small_one h0); (try have hs := small_lab h0); (try have hs := small_four h0); (try refine fun (_ : _ = _) => ?_); (try refine fun (_ : _ ∧ _) => ?_); (try simp only [refTerms_eq, refLabels_eq]); first | assumption | omega | (constructor <;> omega) | exact Nat.zero_le _ | (intro q hq; simp at hq; done) | decide) (need_nil), ?_⟩
    refine ⟨need_cons (by (try have hs := small_two h0); (try have hs := small_one h0); (try have hs := small_lab h0); (try have hs := small_four h0); (try refine fun (_ : _ = _) => ?_); (try refine fun (_ : _ ∧ _) => ?_); (try simp only [refTerms_eq, refLabels_eq]); first | assumption | omega | (constructor <;> omega) | exact Nat.zero_le _ | (intro q hq; simp at hq; done) | decide) (need_cons (by (try have hs := small_two h0); (try have hs := small_one h0); (try have hs := small_lab h0); (try have hs := small_four h0); (try refine fun (_ : _ = _) => ?_); (try refine fun (_ : _ ∧ _) => ?_); (try simp only [refTerms_eq, refLabels_eq]); first | assumption | omega | (constructor <;> omega) | exact Nat.zero_le _ | (intro q hq; simp at hq; done) | decide) (need_nil)), ?_⟩
    refine ⟨need_cons (by (try have hs := small_two h0); (try have hs := small_one h0); (try have hs := small_lab h0); (try have hs := small_four h0); (try refine fun (_ : _ = _) => ?_); (try refine fun (_ : _ ∧ _) => ?_); (try simp only [refTerms_eq, refLabels_eq]); first | assumption | omega | (constructor <;> omega) | exact Nat.zero_le _ | (intro q hq; simp at hq; done) | decide) (need_cons (by (try have hs := small_two h0); (try have hs := small_one h0); (try have hs := small_lab h0); (try have hs := small_four h0); (try refine fun (_ : _ = _) => ?_); (try refine fun (_ : _ ∧ _) => ?_); (try simp only [refTerms_eq, refLabels_eq]); first | assumption | omega | (constructor <;> omega) | exact Nat.zero_le _ | (intro q hq; simp at hq; done) | decide) (need_nil)), ?_⟩
    refine ⟨need_cons (by (try have hs := small_two h0); (try have hs := small_one h0); (try have hs := small_lab h0); (try have hs := small_four h0); (try refine fun (_ : _ = _) => ?_); (try refine fun (_ : _ ∧ _) => ?_); (try simp only [refTerms_eq, refLabels_eq]); first | assumption | omega | (constructor <;> omega) | exact Nat.zero_le _ | (intro q hq; simp at hq; done) | decide) (need_nil), ?_⟩
    refine ⟨need_cons (by (try have hs := small_two h0); (try have hs := small_one h0); (try have hs := small_lab h0); (try have hs := small_four h0); (try refine fun (_ : _ = _) => ?_); (try refine fun (_ : _ ∧ _) => ?_); (try simp only [refTerms_eq, refLabels_eq]); first | assumption | omega | (constructor <;> omega) | exact Nat.zero_le _ | (intro q hq; simp at hq; done) | decide) (need_cons (by (try have hs := small_two h0); (try have hs := small_one h0); (try have hs := small_lab h0); (try have hs := small_four h0); (try refine fun (_ : _ = _) => ?_); (try refine fun (_ : _ ∧ _) => ?_); (try simp only [refTerms_eq, refLabels_eq]); first | assumption | omega | (constructor <;> omega) | exact Nat.zero_le _ | (intro q hq; simp at hq; done) | decide) (need_nil)), ?_⟩
    have hF : w02_TopoPrintsF a0 a1 = (cond (cond (cond (cond w02_liveF (decide (((topo_PrintF a0).1) = ((r02_PrintF (w02_refTermsF a0)).1))) false) (((topo_PrintF a0).2) == ((r02_PrintF (w02_refTermsF a0)).2)) false) (decide (((topo_PrintLabelsF a1).1) = ((r02_PrintLabelsF (w02_refLabelsF a1)).1))) false) (((topo_PrintLabelsF a1).2) == ((r02_PrintLabelsF (w02_refLabelsF a1)).2)) false) := by first | exact (cond_f h0 rfl) | simp only [w02_TopoPrintsF, h0, cond_true, cond_false]
    exact ⟨trivial, .inl (by first | (rw [hF]; kernel_rfl) | kernel_rfl), by first | (rw [hF]; kernel_rfl) | kernel_rfl⟩
end Go.Proofs.YtbjlmmeabonbpaaDoor
