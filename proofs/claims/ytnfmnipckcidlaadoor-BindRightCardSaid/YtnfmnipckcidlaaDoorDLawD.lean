/- Bind: laws. -/
import Derived.Test.YtnfmnipckcidlaaDoorDFirst
set_option linter.unusedVariables false
set_option linter.unusedSimpArgs false
set_option maxRecDepth 100000
namespace Go.Proofs.YtnfmnipckcidlaaDoor
open Go Go.Eng
noncomputable def E_w12_BindFits : Env := envOf (P := Tryd.prog) [w12_few_fact, bind_Best_fact, w12_first_fact, w12_live_fact] [] [] ckf
def w12_BindFitsLF (a0 : List XObj) (a1 : XObj) : List XObj → Nat → Bool
  | [], i => false
  | o :: r, i => cond (cond (cond (cond (cond (cond (cond (cond (cond ((o.kind) == (4 : Int)) ((o.phase) == (4 : Int)) false) (!(o.deleting)) false) (decide ((o.cls) = a1.cls)) false) ((o.mode) == a1.mode) false) (decide ((o.got) ≥ a1.size)) false) (w12_firstF (w12_fewF a0) (i : Int)) false) (decide (a1.node = (⟨#[]⟩ : ByteArray))) false) (cond (!((bind_BestF (w12_fewF a0) a1).2)) true (decide ((o.got) < (((bind_BestF (w12_fewF a0) a1).1).got)))) false)
    true
    (w12_BindFitsLF a0 a1 r (i + 1))
def w12_BindFitsLS (a0 : List XObj) (a1 : XObj) (i : Nat) : St :=
  ⟨slots 120 [(0, .coll ⟨.obj, w12_fewF a0⟩), (3, .ptr 0 0), (5, .ptr 1 0), (6, .bool ((bind_BestF (w12_fewF a0) a1).2)), (7, .int .i64 (i : Int))], [.cells 31 (oc a1), .cells 31 (oc ((bind_BestF (w12_fewF a0) a1).1))]⟩
def w12_BindFitsLR (a0 : List XObj) (a1 : XObj) (i : Nat) : RT :=
  (.ask (decide ((i : Int) < ((w12_fewF a0).length : Int)))
    (.need [0 ≤ (i : Int) ∧ (i : Int) < ((w12_fewF a0).length : Int)]
      (.need [((cond (cond (cond (cond (cond ((((w12_fewF a0).getD i default).kind) == (4 : Int)) ((((w12_fewF a0).getD i default).phase) == (4 : Int)) false) (!(((w12_fewF a0).getD i default).deleting)) false) (decide ((((w12_fewF a0).getD i default).cls) = a1.cls)) false) ((((w12_fewF a0).getD i default).mode) == a1.mode) false) (decide ((((w12_fewF a0).getD i default).got) ≥ a1.size)) false) = true) → ((w12_fewF a0).length < 4611686018427387904), ((cond (cond (cond (cond (cond ((((w12_fewF a0).getD i default).kind) == (4 : Int)) ((((w12_fewF a0).getD i default).phase) == (4 : Int)) false) (!(((w12_fewF a0).getD i default).deleting)) false) (decide ((((w12_fewF a0).getD i default).cls) = a1.cls)) false) ((((w12_fewF a0).getD i default).mode) == a1.mode) false) (decide ((((w12_fewF a0).getD i default).got) ≥ a1.size)) false) = true) → (0 ≤ (i : Int)), ((cond (cond (cond (cond (cond ((((w12_fewF a0).getD i default).kind) == (4 : Int)) ((((w12_fewF a0).getD i default).phase) == (4 : Int)) false) (!(((w12_fewF a0).getD i default).deleting)) false) (decide ((((w12_fewF a0).getD i default).cls) = a1.cls)) false) ((((w12_fewF a0).getD i default).mode) == a1.mode) false) (decide ((((w12_fewF a0).getD i default).got) ≥ a1.size)) false) = true) → ((i : Int) < ((w12_fewF a0).length : Int))]
        (.ask (cond (cond (cond (cond (cond (cond (cond (cond ((((w12_fewF a0).getD i default).kind) == (4 : Int)) ((((w12_fewF a0).getD i default).phase) == (4 : Int)) false) (!(((w12_fewF a0).getD i default).deleting)) false) (decide ((((w12_fewF a0).getD i default).cls) = a1.cls)) false) ((((w12_fewF a0).getD i default).mode) == a1.mode) false) (decide ((((w12_fewF a0).getD i default).got) ≥ a1.size)) false) (w12_firstF (w12_fewF a0) (i : Int)) false) (decide (a1.node = (⟨#[]⟩ : ByteArray))) false) (cond (!((bind_BestF (w12_fewF a0) a1).2)) true (decide ((((w12_fewF a0).getD i default).got) < (((bind_BestF (w12_fewF a0) a1).1).got)))) false)
          (.leaf .ret ⟨slots 120 [(4, .bool false)], []⟩ [])
          (.leaf .normal ⟨slots 120 [(0, .coll ⟨.obj, w12_fewF a0⟩), (3, .ptr 0 0), (5, .ptr 1 0), (6, .bool ((bind_BestF (w12_fewF a0) a1).2)), (7, .int .i64 (IntKind.i64.wrap ((i : Int) + (1 : Int))))], [.cells 31 (oc a1), .cells 31 (oc ((bind_BestF (w12_fewF a0) a1).1))]⟩ []))))
    (.leaf (.exit 0) ⟨slots 120 [(3, .ptr 0 0), (5, .ptr 1 0), (6, .bool ((bind_BestF (w12_fewF a0) a1).2))], [.cells 31 (oc a1), .cells 31 (oc ((bind_BestF (w12_fewF a0) a1).1))]⟩ []))
def w12_BindFitsLT (a0 : List XObj) (a1 : XObj) (i : Nat) : Tree :=
  .ask (w12_BindFitsLF a0 a1 ((w12_fewF a0).drop i) i) (.leaf .ret ⟨slots 120 [(4, .bool false)], []⟩) (.leaf (.exit 0) ⟨slots 120 [(3, .ptr 0 0), (5, .ptr 1 0), (6, .bool ((bind_BestF (w12_fewF a0) a1).2))], [.cells 31 (oc a1), .cells 31 (oc ((bind_BestF (w12_fewF a0) a1).1))]⟩)
theorem w12_BindFitsL_loop (a0 : List XObj) (a1 : XObj) (hp0 : ∀ o ∈ a0, o.Fine) (hp1 : a1.Fine) (hlen : (w12_fewF a0).length < 4611686018427387904) (z : { z : Nat // z ≤ (w12_fewF a0).length }) (Q : Exit → St → Prop) (h : (w12_BindFitsLT a0 a1 z.1).All Q) : Tr Tryd.prog 0 (.loop (loopAt Tryd.f5 0)) (w12_BindFitsLS a0 a1 z.1) Q := by
  refine Tr_loopT (kok _ _ _ _ _ _) (E := E_w12_BindFits) (ι := { z : Nat // z ≤ (w12_fewF a0).length }) 60 0 (fun _ => noLoops) (fun z => w12_BindFitsLS a0 a1 z.1) (fun z => w12_BindFitsLT a0 a1 z.1) (fun z => w12_BindFitsLR a0 a1 z.1) (fun z => (w12_fewF a0).length - z.1) (fun _ => LoopsOk.none) (fun z => by obtain ⟨i, hi⟩ := z; kernel_rfl) (fun z => by obtain ⟨i, hi⟩ := z; kernel_rfl) (fun z => by obtain ⟨i, hi⟩ := z; kernel_rfl) ?_ z Q h
  rintro ⟨i, hi⟩ Q hT
  replace hT : (w12_BindFitsLT a0 a1 i).All Q := hT
  replace hi : i ≤ (w12_fewF a0).length := hi
  show (w12_BindFitsLR a0 a1 i).All _
  unfold w12_BindFitsLR
  refine ⟨fun h0 => ?_, fun h0 => ?_⟩
  · have hlt : i < (w12_fewF a0).length := by simpa using h0
    have hd := drop_getD hlt
    have hw := wrap_succ (i := i) (by omega)
    refine ⟨need_cons (by first | assumption | omega | (intro; omega) | (simp only [decide_eq_true_eq, decide_eq_false_iff_not, Bool.cond_false_right, Bool.cond_true_right, Bool.cond_true_left, Bool.cond_false_left, Bool.and_eq_true, Bool.or_eq_true, Bool.not_eq_true', bytesLim, maxLen, List.length_cons, List.length_nil, List.length_append, byteSize_lit] at *; omega) | (intro; simp only [decide_eq_true_eq, decide_eq_false_iff_not, Bool.cond_false_right, Bool.cond_true_right, Bool.cond_true_left, Bool.cond_false_left, Bool.and_eq_true, Bool.or_eq_true, Bool.not_eq_true', bytesLim, maxLen, List.length_cons, List.length_nil, List.length_append, byteSize_lit] at *; omega)) (need_nil), ?_⟩
    refine ⟨need_cons (by (try refine fun (_ : _ = _) => ?_); first | assumption | omega | exact of_short _ (by first | assumption | omega | exact Nat.le_trans (w12_few_len _) (by decide)) | exact r12_Uniq_short _ (by first | assumption | omega | exact Nat.le_trans (w12_few_len _) (by decide)) | exact Nat.lt_of_le_of_lt (w12_few_len _) (by decide) | decide | (simp only [List.length_append, List.length_cons, List.length_nil]; have := w12_few_len a0; omega)) (need_cons (by first | assumption | omega | (intro; omega) | (simp only [decide_eq_true_eq, decide_eq_false_iff_not, Bool.cond_false_right, Bool.cond_true_right, Bool.cond_true_left, Bool.cond_false_left, Bool.and_eq_true, Bool.or_eq_true, Bool.not_eq_true', bytesLim, maxLen, List.length_cons, List.length_nil, List.length_append, byteSize_lit] at *; omega) | (intro; simp only [decide_eq_true_eq, decide_eq_false_iff_not, Bool.cond_false_right, Bool.cond_true_right, Bool.cond_true_left, Bool.cond_false_left, Bool.and_eq_true, Bool.or_eq_true, Bool.not_eq_true', bytesLim, maxLen, List.length_cons, List.length_nil, List.length_append, byteSize_lit] at *; omega)) (need_cons (by first | assumption | omega | (intro; omega) | (simp only [decide_eq_true_eq, decide_eq_false_iff_not, Bool.cond_false_right, Bool.cond_true_right, Bool.cond_true_left, Bool.cond_false_left, Bool.and_eq_true, Bool.or_eq_true, Bool.not_eq_true', bytesLim, maxLen, List.length_cons, List.length_nil, List.length_append, byteSize_lit] at *; omega) | (intro; simp only [decide_eq_true_eq, decide_eq_false_iff_not, Bool.cond_false_right, Bool.cond_true_right, Bool.cond_true_left, Bool.cond_false_left, Bool.and_eq_true, Bool.or_eq_true, Bool.not_eq_true', bytesLim, maxLen, List.length_cons, List.length_nil, List.length_append, byteSize_lit] at *; omega)) (need_nil))), ?_⟩
    refine ⟨fun h1 => ?_, fun h1 => ?_⟩
    · have hF : w12_BindFitsLF a0 a1 ((w12_fewF a0).drop i) i = true := by rw [hd]; first | exact (cond_t h1 rfl) | simp only [w12_BindFitsLF, h0, h1, cond_true, cond_false]
      unfold w12_BindFitsLT at hT
      rw [hF] at hT
      exact hT.1 rfl
    · have hF : w12_BindFitsLF a0 a1 ((w12_fewF a0).drop i) i = w12_BindFitsLF a0 a1 ((w12_fewF a0).drop (i + 1)) (i + 1) := by rw [hd]; first | exact (cond_f h1 rfl) | simp only [w12_BindFitsLF, h0, h1, cond_true, cond_false]
      refine ⟨⟨(i + 1), by show (i + 1) ≤ (w12_fewF a0).length; omega⟩, by show (w12_fewF a0).length - (i + 1) < (w12_fewF a0).length - i; omega, ?_, ?_⟩
      · show _ = w12_BindFitsLS a0 a1 (i + 1)
        unfold w12_BindFitsLS
        simp only [hw]
      · show (w12_BindFitsLT a0 a1 (i + 1)).All Q
        unfold w12_BindFitsLT at hT ⊢
        rw [hF] at hT
        exact hT
  · have hge : ¬ i < (w12_fewF a0).length := by simpa using h0
    have hd : (w12_fewF a0).drop i = [] := List.drop_eq_nil_of_le (by omega)
    have hF : w12_BindFitsLF a0 a1 ((w12_fewF a0).drop i) i = false := by rw [hd]; first | exact rfl | simp only [w12_BindFitsLF, h0, cond_true, cond_false]
    unfold w12_BindFitsLT at hT
    rw [hF] at hT
    exact hT.2 rfl
def w12_BindFitsF (a0 : List XObj) (a1 : XObj) : Bool :=
  cond (w12_BindFitsLF a0 a1 (w12_fewF a0) 0)
    false
    (cond w12_liveF (cond (!((bind_BestF (w12_fewF a0) a1).2)) true (cond (cond (cond (cond ((((bind_BestF (w12_fewF a0) a1).1).phase) == (4 : Int)) (!(((bind_BestF (w12_fewF a0) a1).1).deleting)) false) (decide ((((bind_BestF (w12_fewF a0) a1).1).cls) = a1.cls)) false) ((((bind_BestF (w12_fewF a0) a1).1).mode) == a1.mode) false) (decide ((((bind_BestF (w12_fewF a0) a1).1).got) ≥ a1.size)) false)) false)
def w12_BindFitsR (a0 : List XObj) (a1 : XObj) : RT :=
  (.need [(w12_fewF a0).length ≤ 64, ∀ o ∈ (w12_fewF a0), o.Fine]
    (.ask (w12_BindFitsLF a0 a1 (w12_fewF a0) 0)
      (.leaf .ret ⟨slots 120 [(4, .bool false)], []⟩ [])
      (.leaf .ret ⟨slots 120 [(4, .bool (cond w12_liveF (cond (!((bind_BestF (w12_fewF a0) a1).2)) true (cond (cond (cond (cond ((((bind_BestF (w12_fewF a0) a1).1).phase) == (4 : Int)) (!(((bind_BestF (w12_fewF a0) a1).1).deleting)) false) (decide ((((bind_BestF (w12_fewF a0) a1).1).cls) = a1.cls)) false) ((((bind_BestF (w12_fewF a0) a1).1).mode) == a1.mode) false) (decide ((((bind_BestF (w12_fewF a0) a1).1).got) ≥ a1.size)) false)) false))], []⟩ [])))
theorem w12_BindFitsF_tr (a0 : List XObj) (a1 : XObj) (hp0 : ∀ o ∈ a0, o.Fine) (hp1 : a1.Fine) : Tr Tryd.prog 0 (bodyOf Tryd.f5) (fnBegins Tryd.f5 [.coll ⟨.obj, a0⟩, .agg (oc a1)] []) (fnEnds Tryd.prog Tryd.f5 (.bool (w12_BindFitsF a0 a1)) []) := by
  refine Tr_tree (kok _ _ _ _ _ _) (E := E_w12_BindFits) (L := (loopsOf [(0, w12_BindFitsLS a0 a1 0, [], w12_BindFitsLT a0 a1 0)])) 60 9999 (LoopsOk.one (g := loopAt Tryd.f5 0) (b := 0) (by kernel_rfl) (by kernel_rfl) (by kernel_rfl) (by kernel_rfl) (fun Q h => w12_BindFitsL_loop a0 a1 hp0 hp1 (by first | assumption | omega | exact of_short _ (by first | assumption | omega | exact Nat.le_trans (w12_few_len _) (by decide)) | exact r12_Uniq_short _ (by first | assumption | omega | exact Nat.le_trans (w12_few_len _) (by decide)) | exact Nat.lt_of_le_of_lt (w12_few_len _) (by decide) | decide | (simp only [List.length_append, List.length_cons, List.length_nil]; have := w12_few_len a0; omega)) ⟨0, Nat.zero_le _⟩ Q h)) (w12_BindFitsR a0 a1) (by kernel_rfl) (by kernel_rfl) (by kernel_rfl) ?_
  unfold w12_BindFitsR
  refine ⟨need_cons (by (try refine fun (_ : _ = _) => ?_); first | assumption | omega | exact of_len _ (by first | assumption | omega | exact Nat.le_trans (w12_few_len _) (by decide)) | exact r12_Uniq_len _ (by first | assumption | omega | exact Nat.le_trans (w12_few_len _) (by decide)) | exact Nat.le_trans (w12_few_len _) (by decide) | decide | (simp only [List.length_append, List.length_cons, List.length_nil]; have := w12_few_len a0; omega)) (need_cons (by (try refine fun (_ : _ = _) => ?_); first | assumption | exact of_fine _ (by first | assumption | exact w12_few_fine (by assumption)) | exact r12_Uniq_fine _ (by first | assumption | exact w12_few_fine (by assumption)) | exact w12_few_fine (by assumption) | exact cons2_fine hp1 ⟨hp1.2.2.2.2.2.2.2.1, Int.le_refl 0, (by decide : (0 : Int) ≤ 18446744073709551615), Nat.zero_le _, Nat.zero_le _, Nat.zero_le _, ref_size _, Nat.zero_le _, Nat.zero_le _⟩ (w12_few_fine hp0) | (simp only [List.mem_cons, List.not_mem_nil, or_false, forall_eq_or_imp, forall_eq, XObj.Fine, size_mk]; decide)) (need_nil)), ?_⟩
  refine ⟨fun h0 => ?_, fun h0 => ?_⟩
  · have hF : w12_BindFitsF a0 a1 = false := by first | exact (cond_t h0 rfl) | simp only [w12_BindFitsF, h0, cond_true, cond_false]
    exact ⟨trivial, .inl (by first | (rw [hF]; kernel_rfl) | kernel_rfl), by first | (rw [hF]; kernel_rfl) | kernel_rfl⟩
  · have hF : w12_BindFitsF a0 a1 = cond w12_liveF (cond (!((bind_BestF (w12_fewF a0) a1).2)) true (cond (cond (cond (cond ((((bind_BestF (w12_fewF a0) a1).1).phase) == (4 : Int)) (!(((bind_BestF (w12_fewF a0) a1).1).deleting)) false) (decide ((((bind_BestF (w12_fewF a0) a1).1).cls) = a1.cls)) false) ((((bind_BestF (w12_fewF a0) a1).1).mode) == a1.mode) false) (decide ((((bind_BestF (w12_fewF a0) a1).1).got) ≥ a1.size)) false)) false := by first | exact (cond_f h0 rfl) | simp only [w12_BindFitsF, h0, cond_true, cond_false]
    exact ⟨trivial, .inl (by first | (rw [hF]; kernel_rfl) | kernel_rfl), by first | (rw [hF]; kernel_rfl) | kernel_rfl⟩
end Go.Proofs.YtnfmnipckcidlaaDoor
