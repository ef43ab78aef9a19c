/- Bind: what is done next for a volume, as the document says. -/
import Derived.Test.YtnfmnipckcidlaaDoorDRClaim
set_option linter.unusedVariables false
set_option linter.unusedSimpArgs false
set_option maxRecDepth 100000
namespace Go.Proofs.YtnfmnipckcidlaaDoor
open Go Go.Eng
noncomputable def E_r12_Volume : Env := envOf (P := Tryd.prog) [r12_Uniq_fact, r12_Get_fact, r12_Write_fact, r12_Ref_fact, r12_Ask_fact] [] [] ckf
def r12_VolumeLF (a0 : List XObj) (a2 : ByteArray) : List XObj → Bool
  | [] => false
  | o :: r => cond (cond ((o.kind) == (3 : Int)) (decide ((r12_RefF o) = (((r12_GetF (r12_UniqF a0) (4 : Int) a2).1).claim))) false)
    true
    (r12_VolumeLF a0 a2 r)
def r12_VolumeLS (a0 : List XObj) (a1 : Int) (a2 : ByteArray) (i : Nat) : St :=
  ⟨slots 123 [(1, .int .u64 a1), (6, .ptr 0 0), (7, .vec 1), (8, .ptr 2 0), (10, .int .i64 (i : Int))], [.cells 36 [.int .u8 0, .int .u8 0, .str (⟨#[]⟩ : ByteArray), .int .u64 0, .int .u64 0, .bool false, .bool false, .str (⟨#[]⟩ : ByteArray), .int .i64 0, .int .i64 0, .int .u8 0, .bool false, .bool false, .str (⟨#[]⟩ : ByteArray), .str (⟨#[]⟩ : ByteArray), .str (⟨#[]⟩ : ByteArray), .str (⟨#[]⟩ : ByteArray), .str (⟨#[]⟩ : ByteArray), .int .u8 0, .int .u64 0, .int .u64 0, .int .u8 0, .str (⟨#[]⟩ : ByteArray), .int .u64 0, .int .i64 0, .str (⟨#[]⟩ : ByteArray), .str (⟨#[]⟩ : ByteArray), .str (⟨#[]⟩ : ByteArray)], .vec true ⟨.obj, r12_UniqF a0⟩, .cells 31 (oc ((r12_GetF (r12_UniqF a0) (4 : Int) a2).1))]⟩
def r12_VolumeLR (a0 : List XObj) (a1 : Int) (a2 : ByteArray) (i : Nat) : RT :=
  (.ask (decide ((i : Int) < ((r12_UniqF a0).length : Int)))
    (.need [0 ≤ (i : Int) ∧ (i : Int) < ((r12_UniqF a0).length : Int), (((((r12_UniqF a0).getD i default).kind) == (3 : Int)) = true) → (0 ≤ (i : Int) ∧ (i : Int) < ((r12_UniqF a0).length : Int)), (((((r12_UniqF a0).getD i default).kind) == (3 : Int)) = true) → (((r12_UniqF a0).getD i default).Fine)]
      (.ask (cond ((((r12_UniqF a0).getD i default).kind) == (3 : Int)) (decide ((r12_RefF ((r12_UniqF a0).getD i default)) = (((r12_GetF (r12_UniqF a0) (4 : Int) a2).1).claim))) false)
        (.leaf .ret ⟨slots 123 [(6, .ptr 0 0)], [.cells 36 [.int .u8 0, .int .u8 0, .str (⟨#[]⟩ : ByteArray), .int .u64 0, .int .u64 0, .bool false, .bool false, .str (⟨#[]⟩ : ByteArray), .int .i64 0, .int .i64 0, .int .u8 0, .bool false, .bool false, .str (⟨#[]⟩ : ByteArray), .str (⟨#[]⟩ : ByteArray), .str (⟨#[]⟩ : ByteArray), .str (⟨#[]⟩ : ByteArray), .str (⟨#[]⟩ : ByteArray), .int .u8 0, .int .u64 0, .int .u64 0, .int .u8 0, .str (⟨#[]⟩ : ByteArray), .int .u64 0, .int .i64 0, .str (⟨#[]⟩ : ByteArray), .str (⟨#[]⟩ : ByteArray), .str (⟨#[]⟩ : ByteArray)]]⟩ [])
        (.leaf .normal ⟨slots 123 [(1, .int .u64 a1), (6, .ptr 0 0), (7, .vec 1), (8, .ptr 2 0), (10, .int .i64 (IntKind.i64.wrap ((i : Int) + (1 : Int))))], [.cells 36 [.int .u8 0, .int .u8 0, .str (⟨#[]⟩ : ByteArray), .int .u64 0, .int .u64 0, .bool false, .bool false, .str (⟨#[]⟩ : ByteArray), .int .i64 0, .int .i64 0, .int .u8 0, .bool false, .bool false, .str (⟨#[]⟩ : ByteArray), .str (⟨#[]⟩ : ByteArray), .str (⟨#[]⟩ : ByteArray), .str (⟨#[]⟩ : ByteArray), .str (⟨#[]⟩ : ByteArray), .int .u8 0, .int .u64 0, .int .u64 0, .int .u8 0, .str (⟨#[]⟩ : ByteArray), .int .u64 0, .int .i64 0, .str (⟨#[]⟩ : ByteArray), .str (⟨#[]⟩ : ByteArray), .str (⟨#[]⟩ : ByteArray)], .vec true ⟨.obj, r12_UniqF a0⟩, .cells 31 (oc ((r12_GetF (r12_UniqF a0) (4 : Int) a2).1))]⟩ [])))
    (.leaf (.exit 1) ⟨slots 123 [(1, .int .u64 a1), (6, .ptr 0 0), (8, .ptr 1 0)], [.cells 36 [.int .u8 0, .int .u8 0, .str (⟨#[]⟩ : ByteArray), .int .u64 0, .int .u64 0, .bool false, .bool false, .str (⟨#[]⟩ : ByteArray), .int .i64 0, .int .i64 0, .int .u8 0, .bool false, .bool false, .str (⟨#[]⟩ : ByteArray), .str (⟨#[]⟩ : ByteArray), .str (⟨#[]⟩ : ByteArray), .str (⟨#[]⟩ : ByteArray), .str (⟨#[]⟩ : ByteArray), .int .u8 0, .int .u64 0, .int .u64 0, .int .u8 0, .str (⟨#[]⟩ : ByteArray), .int .u64 0, .int .i64 0, .str (⟨#[]⟩ : ByteArray), .str (⟨#[]⟩ : ByteArray), .str (⟨#[]⟩ : ByteArray)], .cells 31 (oc ((r12_GetF (r12_UniqF a0) (4 : Int) a2).1))]⟩ [0, 2]))
def r12_VolumeLT (a0 : List XObj) (a1 : Int) (a2 : ByteArray) (i : Nat) : Tree :=
  .ask (r12_VolumeLF a0 a2 ((r12_UniqF a0).drop i)) (.leaf .ret ⟨slots 123 [(6, .ptr 0 0)], [.cells 36 [.int .u8 0, .int .u8 0, .str (⟨#[]⟩ : ByteArray), .int .u64 0, .int .u64 0, .bool false, .bool false, .str (⟨#[]⟩ : ByteArray), .int .i64 0, .int .i64 0, .int .u8 0, .bool false, .bool false, .str (⟨#[]⟩ : ByteArray), .str (⟨#[]⟩ : ByteArray), .str (⟨#[]⟩ : ByteArray), .str (⟨#[]⟩ : ByteArray), .str (⟨#[]⟩ : ByteArray), .int .u8 0, .int .u64 0, .int .u64 0, .int .u8 0, .str (⟨#[]⟩ : ByteArray), .int .u64 0, .int .i64 0, .str (⟨#[]⟩ : ByteArray), .str (⟨#[]⟩ : ByteArray), .str (⟨#[]⟩ : ByteArray)]]⟩) (.leaf (.exit 1) ⟨slots 123 [(1, .int .u64 a1), (6, .ptr 0 0), (8, .ptr 1 0)], [.cells 36 [.int .u8 0, .int .u8 0, .str (⟨#[]⟩ : ByteArray), .int .u64 0, .int .u64 0, .bool false, .bool false, .str (⟨#[]⟩ : ByteArray), .int .i64 0, .int .i64 0, .int .u8 0, .bool false, .bool false, .str (⟨#[]⟩ : ByteArray), .str (⟨#[]⟩ : ByteArray), .str (⟨#[]⟩ : ByteArray), .str (⟨#[]⟩ : ByteArray), .str (⟨#[]⟩ : ByteArray), .int .u8 0, .int .u64 0, .int .u64 0, .int .u8 0, .str (⟨#[]⟩ : ByteArray), .int .u64 0, .int .i64 0, .str (⟨#[]⟩ : ByteArray), .str (⟨#[]⟩ : ByteArray), .str (⟨#[]⟩ : ByteArray)], .cells 31 (oc ((r12_GetF (r12_UniqF a0) (4 : Int) a2).1))]⟩)
theorem r12_VolumeL_loop (a0 : List XObj) (a1 : Int) (a2 : ByteArray) (hp0 : a0.length ≤ 64) (hp1 : ∀ o ∈ a0, o.Fine) (hlen : (r12_UniqF a0).length < 4611686018427387904) (z : { z : Nat // z ≤ (r12_UniqF a0).length }) (Q : Exit → St → Prop) (h : (r12_VolumeLT a0 a1 a2 z.1).All Q) : Tr Tryd.prog 0 (.loop (loopAt Tryd.f23 0)) (r12_VolumeLS a0 a1 a2 z.1) Q := by
  refine Tr_loopT (kok _ _ _ _ _ _) (E := E_r12_Volume) (ι := { z : Nat // z ≤ (r12_UniqF a0).length }) 60 1 (fun _ => noLoops) (fun z => r12_VolumeLS a0 a1 a2 z.1) (fun z => r12_VolumeLT a0 a1 a2 z.1) (fun z => r12_VolumeLR a0 a1 a2 z.1) (fun z => (r12_UniqF a0).length - z.1) (fun _ => LoopsOk.none) (fun z => by obtain ⟨i, hi⟩ := z; kernel_rfl) (fun z => by obtain ⟨i, hi⟩ := z; kernel_rfl) (fun z => by obtain ⟨i, hi⟩ := z; kernel_rfl) ?_ z Q h
  rintro ⟨i, hi⟩ Q hT
  replace hT : (r12_VolumeLT a0 a1 a2 i).All Q := hT
  replace hi : i ≤ (r12_UniqF a0).length := hi
  show (r12_VolumeLR a0 a1 a2 i).All _
  unfold r12_VolumeLR
  refine ⟨fun h0 => ?_, fun h0 => ?_⟩
  · have hlt : i < (r12_UniqF a0).length := by simpa using h0
    have hd := drop_getD hlt
    have hw := wrap_succ (i := i) (by omega)
    refine ⟨need_cons (by first | assumption | omega | (intro; omega) | (simp only [decide_eq_true_eq, decide_eq_false_iff_not, Bool.cond_false_right, Bool.cond_true_right, Bool.cond_true_left, Bool.cond_false_left, Bool.and_eq_true, Bool.or_eq_true, Bool.not_eq_true', bytesLim, maxLen, List.length_cons, List.length_nil, List.length_append, byteSize_lit] at *; omega) | (intro; simp only [decide_eq_true_eq, decide_eq_false_iff_not, Bool.cond_false_right, Bool.cond_true_right, Bool.cond_true_left, Bool.cond_false_left, Bool.and_eq_true, Bool.or_eq_true, Bool.not_eq_true', bytesLim, maxLen, List.length_cons, List.length_nil, List.length_append, byteSize_lit] at *; omega)) (need_cons (by first | assumption | omega | (intro; omega) | (simp only [decide_eq_true_eq, decide_eq_false_iff_not, Bool.cond_false_right, Bool.cond_true_right, Bool.cond_true_left, Bool.cond_false_left, Bool.and_eq_true, Bool.or_eq_true, Bool.not_eq_true', bytesLim, maxLen, List.length_cons, List.length_nil, List.length_append, byteSize_lit] at *; omega) | (intro; simp only [decide_eq_true_eq, decide_eq_false_iff_not, Bool.cond_false_right, Bool.cond_true_right, Bool.cond_true_left, Bool.cond_false_left, Bool.and_eq_true, Bool.or_eq_true, Bool.not_eq_true', bytesLim, maxLen, List.length_cons, List.length_nil, List.length_append, byteSize_lit] at *; omega)) (need_cons (by (try refine fun (_ : _ = _) => ?_); first | assumption | exact get_fine _ _ _ (by first | assumption | exact of_fine _ (by first | assumption | exact w12_few_fine (by assumption)) | exact r12_Uniq_fine _ (by first | assumption | exact w12_few_fine (by assumption)) | exact w12_few_fine (by assumption)) | exact r12_Get_fine _ _ _ (by first | assumption | exact of_fine _ (by first | assumption | exact w12_few_fine (by assumption)) | exact r12_Uniq_fine _ (by first | assumption | exact w12_few_fine (by assumption)) | exact w12_few_fine (by assumption)) | exact fine_default | exact hp1 _ (gD_mem (by assumption)) | exact r12_Uniq_fine _ (by assumption) _ (gD_mem (by assumption)) | exact of_fine _ (by assumption) _ (gD_mem (by assumption)) | exact w12_few_fine (by assumption) _ (gD_mem (by assumption)) | exact hp1 | exact hp0 | (refine ⟨?_, ?_, ?_, ?_, ?_, ?_, ?_, ?_, ?_⟩ <;> first | assumption | decide | (simp only [size_mk]; decide))) (need_nil))), ?_⟩
    refine ⟨fun h1 => ?_, fun h1 => ?_⟩
    · have hF : r12_VolumeLF a0 a2 ((r12_UniqF a0).drop i) = true := by rw [hd]; first | exact (cond_t h1 rfl) | simp only [r12_VolumeLF, h0, h1, cond_true, cond_false]
      unfold r12_VolumeLT at hT
      rw [hF] at hT
      exact hT.1 rfl
    · have hF : r12_VolumeLF a0 a2 ((r12_UniqF a0).drop i) = r12_VolumeLF a0 a2 ((r12_UniqF a0).drop (i + 1)) := by rw [hd]; first | exact (cond_f h1 rfl) | simp only [r12_VolumeLF, h0, h1, cond_true, cond_false]
      refine ⟨⟨(i + 1), by show (i + 1) ≤ (r12_UniqF a0).length; omega⟩, by show (r12_UniqF a0).length - (i + 1) < (r12_UniqF a0).length - i; omega, ?_, ?_⟩
      · show _ = r12_VolumeLS a0 a1 a2 (i + 1)
        unfold r12_VolumeLS
        simp only [hw]
      · show (r12_VolumeLT a0 a1 a2 (i + 1)).All Q
        unfold r12_VolumeLT at hT ⊢
        rw [hF] at hT
        exact hT
  · have hge : ¬ i < (r12_UniqF a0).length := by simpa using h0
    have hd : (r12_UniqF a0).drop i = [] := List.drop_eq_nil_of_le (by omega)
    have hF : r12_VolumeLF a0 a2 ((r12_UniqF a0).drop i) = false := by rw [hd]; first | exact rfl | simp only [r12_VolumeLF, h0, cond_true, cond_false]
    unfold r12_VolumeLT at hT
    rw [hF] at hT
    exact hT.2 rfl
def r12_VolumeL1F (a2 : ByteArray) : List XObj → Bool
  | [] => false
  | o1 :: r => cond (cond (decide ((o1.volume) = a2)) (cond ((o1.kind) == (5 : Int)) true (cond ((o1.kind) == (7 : Int)) ((o1.phase) == (10 : Int)) false)) false)
    true
    (r12_VolumeL1F a2 r)
def r12_VolumeL1S (a0 : List XObj) (a1 : Int) (a2 : ByteArray) (i1 : Nat) : St :=
  ⟨slots 123 [(2, .str a2), (6, .ptr 0 0), (7, .vec 1), (8, .ptr 2 0), (11, .int .i64 (i1 : Int))], [.cells 36 [.int .u8 0, .int .u8 0, .str (⟨#[]⟩ : ByteArray), .int .u64 0, .int .u64 0, .bool false, .bool false, .str (⟨#[]⟩ : ByteArray), .int .i64 0, .int .i64 0, .int .u8 0, .bool false, .bool false, .str (⟨#[]⟩ : ByteArray), .str (⟨#[]⟩ : ByteArray), .str (⟨#[]⟩ : ByteArray), .str (⟨#[]⟩ : ByteArray), .str (⟨#[]⟩ : ByteArray), .int .u8 0, .int .u64 0, .int .u64 0, .int .u8 0, .str (⟨#[]⟩ : ByteArray), .int .u64 0, .int .i64 0, .str (⟨#[]⟩ : ByteArray), .str (⟨#[]⟩ : ByteArray), .str (⟨#[]⟩ : ByteArray)], .vec true ⟨.obj, r12_UniqF a0⟩, .cells 31 (oc ((r12_GetF (r12_UniqF a0) (4 : Int) a2).1))]⟩
def r12_VolumeL1R (a0 : List XObj) (a1 : Int) (a2 : ByteArray) (i1 : Nat) : RT :=
  (.ask (decide ((i1 : Int) < ((r12_UniqF a0).length : Int)))
    (.need [0 ≤ (i1 : Int) ∧ (i1 : Int) < ((r12_UniqF a0).length : Int)]
      (.need [((decide ((((r12_UniqF a0).getD i1 default).volume) = a2)) = true) → (0 ≤ (i1 : Int) ∧ (i1 : Int) < ((r12_UniqF a0).length : Int))]
        (.need [(((decide ((((r12_UniqF a0).getD i1 default).volume) = a2)) = true) ∧ ((((r12_UniqF a0).getD i1 default).kind) == (5 : Int)) = false) → (0 ≤ (i1 : Int) ∧ (i1 : Int) < ((r12_UniqF a0).length : Int))]
          (.need [((((decide ((((r12_UniqF a0).getD i1 default).volume) = a2)) = true) ∧ ((((r12_UniqF a0).getD i1 default).kind) == (5 : Int)) = false) ∧ ((((r12_UniqF a0).getD i1 default).kind) == (7 : Int)) = true) → (0 ≤ (i1 : Int) ∧ (i1 : Int) < ((r12_UniqF a0).length : Int))]
            (.ask (cond (decide ((((r12_UniqF a0).getD i1 default).volume) = a2)) (cond ((((r12_UniqF a0).getD i1 default).kind) == (5 : Int)) true (cond ((((r12_UniqF a0).getD i1 default).kind) == (7 : Int)) ((((r12_UniqF a0).getD i1 default).phase) == (10 : Int)) false)) false)
              (.leaf .ret ⟨slots 123 [(6, .ptr 0 0)], [.cells 36 [.int .u8 0, .int .u8 0, .str (⟨#[]⟩ : ByteArray), .int .u64 0, .int .u64 0, .bool false, .bool false, .str (⟨#[]⟩ : ByteArray), .int .i64 0, .int .i64 0, .int .u8 0, .bool false, .bool false, .str (⟨#[]⟩ : ByteArray), .str (⟨#[]⟩ : ByteArray), .str (⟨#[]⟩ : ByteArray), .str (⟨#[]⟩ : ByteArray), .str (⟨#[]⟩ : ByteArray), .int .u8 0, .int .u64 0, .int .u64 0, .int .u8 0, .str (⟨#[]⟩ : ByteArray), .int .u64 0, .int .i64 0, .str (⟨#[]⟩ : ByteArray), .str (⟨#[]⟩ : ByteArray), .str (⟨#[]⟩ : ByteArray)]]⟩ [])
              (.leaf .normal ⟨slots 123 [(2, .str a2), (6, .ptr 0 0), (7, .vec 1), (8, .ptr 2 0), (11, .int .i64 (IntKind.i64.wrap ((i1 : Int) + (1 : Int))))], [.cells 36 [.int .u8 0, .int .u8 0, .str (⟨#[]⟩ : ByteArray), .int .u64 0, .int .u64 0, .bool false, .bool false, .str (⟨#[]⟩ : ByteArray), .int .i64 0, .int .i64 0, .int .u8 0, .bool false, .bool false, .str (⟨#[]⟩ : ByteArray), .str (⟨#[]⟩ : ByteArray), .str (⟨#[]⟩ : ByteArray), .str (⟨#[]⟩ : ByteArray), .str (⟨#[]⟩ : ByteArray), .int .u8 0, .int .u64 0, .int .u64 0, .int .u8 0, .str (⟨#[]⟩ : ByteArray), .int .u64 0, .int .i64 0, .str (⟨#[]⟩ : ByteArray), .str (⟨#[]⟩ : ByteArray), .str (⟨#[]⟩ : ByteArray)], .vec true ⟨.obj, r12_UniqF a0⟩, .cells 31 (oc ((r12_GetF (r12_UniqF a0) (4 : Int) a2).1))]⟩ []))))))
    (.leaf (.exit 3) ⟨slots 123 [(2, .str a2), (6, .ptr 0 0), (8, .ptr 1 0)], [.cells 36 [.int .u8 0, .int .u8 0, .str (⟨#[]⟩ : ByteArray), .int .u64 0, .int .u64 0, .bool false, .bool false, .str (⟨#[]⟩ : ByteArray), .int .i64 0, .int .i64 0, .int .u8 0, .bool false, .bool false, .str (⟨#[]⟩ : ByteArray), .str (⟨#[]⟩ : ByteArray), .str (⟨#[]⟩ : ByteArray), .str (⟨#[]⟩ : ByteArray), .str (⟨#[]⟩ : ByteArray), .int .u8 0, .int .u64 0, .int .u64 0, .int .u8 0, .str (⟨#[]⟩ : ByteArray), .int .u64 0, .int .i64 0, .str (⟨#[]⟩ : ByteArray), .str (⟨#[]⟩ : ByteArray), .str (⟨#[]⟩ : ByteArray)], .cells 31 (oc ((r12_GetF (r12_UniqF a0) (4 : Int) a2).1))]⟩ [0, 2]))
def r12_VolumeL1T (a0 : List XObj) (a1 : Int) (a2 : ByteArray) (i1 : Nat) : Tree :=
  .ask (r12_VolumeL1F a2 ((r12_UniqF a0).drop i1)) (.leaf .ret ⟨slots 123 [(6, .ptr 0 0)], [.cells 36 [.int .u8 0, .int .u8 0, .str (⟨#[]⟩ : ByteArray), .int .u64 0, .int .u64 0, .bool false, .bool false, .str (⟨#[]⟩ : ByteArray), .int .i64 0, .int .i64 0, .int .u8 0, .bool false, .bool false, .str (⟨#[]⟩ : ByteArray), .str (⟨#[]⟩ : ByteArray), .str (⟨#[]⟩ : ByteArray), .str (⟨#[]⟩ : ByteArray), .str (⟨#[]⟩ : ByteArray), .int .u8 0, .int .u64 0, .int .u64 0, .int .u8 0, .str (⟨#[]⟩ : ByteArray), .int .u64 0, .int .i64 0, .str (⟨#[]⟩ : ByteArray), .str (⟨#[]⟩ : ByteArray), .str (⟨#[]⟩ : ByteArray)]]⟩) (.leaf (.exit 3) ⟨slots 123 [(2, .str a2), (6, .ptr 0 0), (8, .ptr 1 0)], [.cells 36 [.int .u8 0, .int .u8 0, .str (⟨#[]⟩ : ByteArray), .int .u64 0, .int .u64 0, .bool false, .bool false, .str (⟨#[]⟩ : ByteArray), .int .i64 0, .int .i64 0, .int .u8 0, .bool false, .bool false, .str (⟨#[]⟩ : ByteArray), .str (⟨#[]⟩ : ByteArray), .str (⟨#[]⟩ : ByteArray), .str (⟨#[]⟩ : ByteArray), .str (⟨#[]⟩ : ByteArray), .int .u8 0, .int .u64 0, .int .u64 0, .int .u8 0, .str (⟨#[]⟩ : ByteArray), .int .u64 0, .int .i64 0, .str (⟨#[]⟩ : ByteArray), .str (⟨#[]⟩ : ByteArray), .str (⟨#[]⟩ : ByteArray)], .cells 31 (oc ((r12_GetF (r12_UniqF a0) (4 : Int) a2).1))]⟩)
theorem r12_VolumeL1_loop (a0 : List XObj) (a1 : Int) (a2 : ByteArray) (hp0 : a0.length ≤ 64) (hp1 : ∀ o ∈ a0, o.Fine) (hlen : (r12_UniqF a0).length < 4611686018427387904) (z : { z : Nat // z ≤ (r12_UniqF a0).length }) (Q : Exit → St → Prop) (h : (r12_VolumeL1T a0 a1 a2 z.1).All Q) : Tr Tryd.prog 0 (.loop (loopAt Tryd.f23 1)) (r12_VolumeL1S a0 a1 a2 z.1) Q := by
  refine Tr_loopT (kok _ _ _ _ _ _) (E := E_r12_Volume) (ι := { z : Nat // z ≤ (r12_UniqF a0).length }) 60 3 (fun _ => noLoops) (fun z => r12_VolumeL1S a0 a1 a2 z.1) (fun z => r12_VolumeL1T a0 a1 a2 z.1) (fun z => r12_VolumeL1R a0 a1 a2 z.1) (fun z => (r12_UniqF a0).length - z.1) (fun _ => LoopsOk.none) (fun z => by obtain ⟨i1, hi⟩ := z; kernel_rfl) (fun z => by obtain ⟨i1, hi⟩ := z; kernel_rfl) (fun z => by obtain ⟨i1, hi⟩ := z; kernel_rfl) ?_ z Q h
  rintro ⟨i1, hi⟩ Q hT
  replace hT : (r12_VolumeL1T a0 a1 a2 i1).All Q := hT
  replace hi : i1 ≤ (r12_UniqF a0).length := hi
  show (r12_VolumeL1R a0 a1 a2 i1).All _
  unfold r12_VolumeL1R
  refine ⟨fun h0 => ?_, fun h0 => ?_⟩
  · have hlt : i1 < (r12_UniqF a0).length := by simpa using h0
    have hd := drop_getD hlt
    have hw := wrap_succ (i := i1) (by omega)
    refine ⟨need_cons (by first | assumption | omega | (intro; omega) | (simp only [decide_eq_true_eq, decide_eq_false_iff_not, Bool.cond_false_right, Bool.cond_true_right, Bool.cond_true_left, Bool.cond_false_left, Bool.and_eq_true, Bool.or_eq_true, Bool.not_eq_true', bytesLim, maxLen, List.length_cons, List.length_nil, List.length_append, byteSize_lit] at *; omega) | (intro; simp only [decide_eq_true_eq, decide_eq_false_iff_not, Bool.cond_false_right, Bool.cond_true_right, Bool.cond_true_left, Bool.cond_false_left, Bool.and_eq_true, Bool.or_eq_true, Bool.not_eq_true', bytesLim, maxLen, List.length_cons, List.length_nil, List.length_append, byteSize_lit] at *; omega)) (need_nil), ?_⟩
    refine ⟨need_cons (by first | assumption | omega | (intro; omega) | (simp only [decide_eq_true_eq, decide_eq_false_iff_not, Bool.cond_false_right, Bool.cond_true_right, Bool.cond_true_left, Bool.cond_false_left, Bool.and_eq_true, Bool.or_eq_true, Bool.not_eq_true', bytesLim, maxLen, List.length_cons, List.length_nil, List.length_append, byteSize_lit] at *; omega) | (intro; simp only [decide_eq_true_eq, decide_eq_false_iff_not, Bool.cond_false_right, Bool.cond_true_right, Bool.cond_true_left, Bool.cond_false_left, Bool.and_eq_true, Bool.or_eq_true, Bool.not_eq_true', bytesLim, maxLen, List.length_cons, List.length_nil, List.length_append, byteSize_lit] at *; omega)) (need_nil), ?_⟩
    refine ⟨need_cons (by first | assumption | omega | (intro; omega) | (simp only [decide_eq_true_eq, decide_eq_false_iff_not, Bool.cond_false_right, Bool.cond_true_right, Bool.cond_true_left, Bool.cond_false_left, Bool.and_eq_true, Bool.or_eq_true, Bool.not_eq_true', bytesLim, maxLen, List.length_cons, List.length_nil, List.length_append, byteSize_lit] at *; omega) | (intro; simp only [decide_eq_true_eq, decide_eq_false_iff_not, Bool.cond_false_right, Bool.cond_true_right, Bool.cond_true_left, Bool.cond_false_left, Bool.and_eq_true, Bool.or_eq_true, Bool.not_eq_true', bytesLim, maxLen, List.length_cons, List.length_nil, List.length_append, byteSize_lit] at *; omega)) (need_nil), ?_⟩
    refine ⟨need_cons (by first | assumption | omega | (intro; omega) | (simp only [decide_eq_true_eq, decide_eq_false_iff_not, Bool.cond_false_right, Bool.cond_true_right, Bool.cond_true_left, Bool.cond_false_left, Bool.and_eq_true, Bool.or_eq_true, Bool.not_eq_true', bytesLim, maxLen, List.length_cons, List.length_nil, List.length_append, byteSize_lit] at *; omega) | (intro; simp only [decide_eq_true_eq, decide_eq_false_iff_not, Bool.cond_false_right, Bool.cond_true_right, Bool.cond_true_left, Bool.cond_false_left, Bool.and_eq_true, Bool.or_eq_true, Bool.not_eq_true', bytesLim, maxLen, List.length_cons, List.length_nil, List.length_append, byteSize_lit] at *; omega)) (need_nil), ?_⟩
    refine ⟨fun h1 => ?_, fun h1 => ?_⟩
    · have hF : r12_VolumeL1F a2 ((r12_UniqF a0).drop i1) = true := by rw [hd]; first | exact (cond_t h1 rfl) | simp only [r12_VolumeL1F, h0, h1, cond_true, cond_false]
      unfold r12_VolumeL1T at hT
      rw [hF] at hT
      exact hT.1 rfl
    · have hF : r12_VolumeL1F a2 ((r12_UniqF a0).drop i1) = r12_VolumeL1F a2 ((r12_UniqF a0).drop (i1 + 1)) := by rw [hd]; first | exact (cond_f h1 rfl) | simp only [r12_VolumeL1F, h0, h1, cond_true, cond_false]
      refine ⟨⟨(i1 + 1), by show (i1 + 1) ≤ (r12_UniqF a0).length; omega⟩, by show (r12_UniqF a0).length - (i1 + 1) < (r12_UniqF a0).length - i1; omega, ?_, ?_⟩
      · show _ = r12_VolumeL1S a0 a1 a2 (i1 + 1)
        unfold r12_VolumeL1S
        simp only [hw]
      · show (r12_VolumeL1T a0 a1 a2 (i1 + 1)).All Q
        unfold r12_VolumeL1T at hT ⊢
        rw [hF] at hT
        exact hT
  · have hge : ¬ i1 < (r12_UniqF a0).length := by simpa using h0
    have hd : (r12_UniqF a0).drop i1 = [] := List.drop_eq_nil_of_le (by omega)
    have hF : r12_VolumeL1F a2 ((r12_UniqF a0).drop i1) = false := by rw [hd]; first | exact rfl | simp only [r12_VolumeL1F, h0, cond_true, cond_false]
    unfold r12_VolumeL1T at hT
    rw [hF] at hT
    exact hT.2 rfl
def r12_VolumeF (a0 : List XObj) (a1 : Int) (a2 : ByteArray) : XAct :=
  cond (!((r12_GetF (r12_UniqF a0) (4 : Int) a2).2))
    (default : XAct)
    (cond ((((r12_GetF (r12_UniqF a0) (4 : Int) a2).1).phase) == (4 : Int))
      (cond (cond (!(((r12_GetF (r12_UniqF a0) (4 : Int) a2).1).deleting)) true (((r12_GetF (r12_UniqF a0) (4 : Int) a2).1).keep))
        (default : XAct)
        (r12_WriteF ({ ((r12_GetF (r12_UniqF a0) (4 : Int) a2).1) with phase := (6 : Int), num := (IntKind.u64.wrap (a1 + (1 : Int))) } : XObj)))
      (cond ((((r12_GetF (r12_UniqF a0) (4 : Int) a2).1).phase) == (3 : Int))
        (cond (r12_VolumeLF a0 a2 (r12_UniqF a0))
          (default : XAct)
          (cond (((r12_GetF (r12_UniqF a0) (4 : Int) a2).1).keep)
            (r12_WriteF ({ ((r12_GetF (r12_UniqF a0) (4 : Int) a2).1) with phase := (5 : Int) } : XObj))
            (r12_WriteF ({ ((r12_GetF (r12_UniqF a0) (4 : Int) a2).1) with phase := (6 : Int), num := (IntKind.u64.wrap (a1 + (1 : Int))) } : XObj))))
        (cond ((((r12_GetF (r12_UniqF a0) (4 : Int) a2).1).phase) == (6 : Int))
          (cond (r12_VolumeL1F a2 (r12_UniqF a0))
            (default : XAct)
            (r12_AskF (⟨(2 : Int), a2, (((r12_GetF (r12_UniqF a0) (4 : Int) a2).1).num), (0 : Int), (⟨#[]⟩ : ByteArray), (⟨#[]⟩ : ByteArray), (⟨#[]⟩ : ByteArray)⟩ : XCall)))
          (default : XAct))))
def r12_VolumeR (a0 : List XObj) (a1 : Int) (a2 : ByteArray) : RT :=
  (.need [a0.length ≤ 64]
    (.need [(r12_UniqF a0).length < 4611686018427387904]
      (.ask (!((r12_GetF (r12_UniqF a0) (4 : Int) a2).2))
        (.leaf .ret ⟨slots 123 [(6, .ptr 0 0)], [.cells 36 [.int .u8 0, .int .u8 0, .str (⟨#[]⟩ : ByteArray), .int .u64 0, .int .u64 0, .bool false, .bool false, .str (⟨#[]⟩ : ByteArray), .int .i64 0, .int .i64 0, .int .u8 0, .bool false, .bool false, .str (⟨#[]⟩ : ByteArray), .str (⟨#[]⟩ : ByteArray), .str (⟨#[]⟩ : ByteArray), .str (⟨#[]⟩ : ByteArray), .str (⟨#[]⟩ : ByteArray), .int .u8 0, .int .u64 0, .int .u64 0, .int .u8 0, .str (⟨#[]⟩ : ByteArray), .int .u64 0, .int .i64 0, .str (⟨#[]⟩ : ByteArray), .str (⟨#[]⟩ : ByteArray), .str (⟨#[]⟩ : ByteArray)]]⟩ [])
        (.ask ((((r12_GetF (r12_UniqF a0) (4 : Int) a2).1).phase) == (4 : Int))
          (.ask (cond (!(((r12_GetF (r12_UniqF a0) (4 : Int) a2).1).deleting)) true (((r12_GetF (r12_UniqF a0) (4 : Int) a2).1).keep))
            (.leaf .ret ⟨slots 123 [(6, .ptr 0 0)], [.cells 36 [.int .u8 0, .int .u8 0, .str (⟨#[]⟩ : ByteArray), .int .u64 0, .int .u64 0, .bool false, .bool false, .str (⟨#[]⟩ : ByteArray), .int .i64 0, .int .i64 0, .int .u8 0, .bool false, .bool false, .str (⟨#[]⟩ : ByteArray), .str (⟨#[]⟩ : ByteArray), .str (⟨#[]⟩ : ByteArray), .str (⟨#[]⟩ : ByteArray), .str (⟨#[]⟩ : ByteArray), .int .u8 0, .int .u64 0, .int .u64 0, .int .u8 0, .str (⟨#[]⟩ : ByteArray), .int .u64 0, .int .i64 0, .str (⟨#[]⟩ : ByteArray), .str (⟨#[]⟩ : ByteArray), .str (⟨#[]⟩ : ByteArray)]]⟩ [])
            (.leaf .ret ⟨slots 123 [(6, .ptr 0 0)], [.cells 36 (ac (r12_WriteF ({ ((r12_GetF (r12_UniqF a0) (4 : Int) a2).1) with phase := (6 : Int), num := (IntKind.u64.wrap (a1 + (1 : Int))) } : XObj)))]⟩ []))
          (.ask ((((r12_GetF (r12_UniqF a0) (4 : Int) a2).1).phase) == (3 : Int))
            (.ask (r12_VolumeLF a0 a2 (r12_UniqF a0))
              (.leaf .ret ⟨slots 123 [(6, .ptr 0 0)], [.cells 36 [.int .u8 0, .int .u8 0, .str (⟨#[]⟩ : ByteArray), .int .u64 0, .int .u64 0, .bool false, .bool false, .str (⟨#[]⟩ : ByteArray), .int .i64 0, .int .i64 0, .int .u8 0, .bool false, .bool false, .str (⟨#[]⟩ : ByteArray), .str (⟨#[]⟩ : ByteArray), .str (⟨#[]⟩ : ByteArray), .str (⟨#[]⟩ : ByteArray), .str (⟨#[]⟩ : ByteArray), .int .u8 0, .int .u64 0, .int .u64 0, .int .u8 0, .str (⟨#[]⟩ : ByteArray), .int .u64 0, .int .i64 0, .str (⟨#[]⟩ : ByteArray), .str (⟨#[]⟩ : ByteArray), .str (⟨#[]⟩ : ByteArray)]]⟩ [])
              (.ask (((r12_GetF (r12_UniqF a0) (4 : Int) a2).1).keep)
                (.leaf .ret ⟨slots 123 [(6, .ptr 0 0)], [.cells 36 (ac (r12_WriteF ({ ((r12_GetF (r12_UniqF a0) (4 : Int) a2).1) with phase := (5 : Int) } : XObj)))]⟩ [])
                (.leaf .ret ⟨slots 123 [(6, .ptr 0 0)], [.cells 36 (ac (r12_WriteF ({ ((r12_GetF (r12_UniqF a0) (4 : Int) a2).1) with phase := (6 : Int), num := (IntKind.u64.wrap (a1 + (1 : Int))) } : XObj)))]⟩ [])))
            (.ask ((((r12_GetF (r12_UniqF a0) (4 : Int) a2).1).phase) == (6 : Int))
              (.ask (r12_VolumeL1F a2 (r12_UniqF a0))
                (.leaf .ret ⟨slots 123 [(6, .ptr 0 0)], [.cells 36 [.int .u8 0, .int .u8 0, .str (⟨#[]⟩ : ByteArray), .int .u64 0, .int .u64 0, .bool false, .bool false, .str (⟨#[]⟩ : ByteArray), .int .i64 0, .int .i64 0, .int .u8 0, .bool false, .bool false, .str (⟨#[]⟩ : ByteArray), .str (⟨#[]⟩ : ByteArray), .str (⟨#[]⟩ : ByteArray), .str (⟨#[]⟩ : ByteArray), .str (⟨#[]⟩ : ByteArray), .int .u8 0, .int .u64 0, .int .u64 0, .int .u8 0, .str (⟨#[]⟩ : ByteArray), .int .u64 0, .int .i64 0, .str (⟨#[]⟩ : ByteArray), .str (⟨#[]⟩ : ByteArray), .str (⟨#[]⟩ : ByteArray)]]⟩ [])
                (.leaf .ret ⟨slots 123 [(6, .ptr 0 0)], [.cells 36 (ac (r12_AskF (⟨(2 : Int), a2, (((r12_GetF (r12_UniqF a0) (4 : Int) a2).1).num), (0 : Int), (⟨#[]⟩ : ByteArray), (⟨#[]⟩ : ByteArray), (⟨#[]⟩ : ByteArray)⟩ : XCall)))]⟩ []))
              (.leaf .ret ⟨slots 123 [(6, .ptr 0 0)], [.cells 36 [.int .u8 0, .int .u8 0, .str (⟨#[]⟩ : ByteArray), .int .u64 0, .int .u64 0, .bool false, .bool false, .str (⟨#[]⟩ : ByteArray), .int .i64 0, .int .i64 0, .int .u8 0, .bool false, .bool false, .str (⟨#[]⟩ : ByteArray), .str (⟨#[]⟩ : ByteArray), .str (⟨#[]⟩ : ByteArray), .str (⟨#[]⟩ : ByteArray), .str (⟨#[]⟩ : ByteArray), .int .u8 0, .int .u64 0, .int .u64 0, .int .u8 0, .str (⟨#[]⟩ : ByteArray), .int .u64 0, .int .i64 0, .str (⟨#[]⟩ : ByteArray), .str (⟨#[]⟩ : ByteArray), .str (⟨#[]⟩ : ByteArray)]]⟩ [])))))))
theorem r12_VolumeF_tr (a0 : List XObj) (a1 : Int) (a2 : ByteArray) (hp0 : a0.length ≤ 64) (hp1 : ∀ o ∈ a0, o.Fine) : Tr Tryd.prog 0 (bodyOf Tryd.f23) (fnBegins Tryd.f23 [.coll ⟨.obj, a0⟩, .int .u64 a1, .str a2] []) (fnEnds Tryd.prog Tryd.f23 (.agg (ac (r12_VolumeF a0 a1 a2))) []) := by
  refine Tr_tree (kok _ _ _ _ _ _) (E := E_r12_Volume) (L := (loopsOf [(1, r12_VolumeLS a0 a1 a2 0, [], r12_VolumeLT a0 a1 a2 0), (3, r12_VolumeL1S a0 a1 a2 0, [], r12_VolumeL1T a0 a1 a2 0)])) 60 9999 (LoopsOk.two (g := loopAt Tryd.f23 0) (g2 := loopAt Tryd.f23 1) (b := 1) (b2 := 3) (by kernel_rfl) (by kernel_rfl) (by kernel_rfl) (by kernel_rfl) (by kernel_rfl) (fun Q h => r12_VolumeL_loop a0 a1 a2 hp0 hp1 (by first | assumption | omega | exact of_short _ (by first | assumption | omega | exact Nat.le_trans (w12_few_len _) (by decide)) | exact r12_Uniq_short _ (by first | assumption | omega | exact Nat.le_trans (w12_few_len _) (by decide)) | exact Nat.lt_of_le_of_lt (w12_few_len _) (by decide) | decide | (simp only [List.length_append, List.length_cons, List.length_nil]; have := w12_few_len a0; omega)) ⟨0, Nat.zero_le _⟩ Q h) (by kernel_rfl) (by kernel_rfl) (by kernel_rfl) (fun Q h => r12_VolumeL1_loop a0 a1 a2 hp0 hp1 (by first | assumption | omega | exact of_short _ (by first | assumption | omega | exact Nat.le_trans (w12_few_len _) (by decide)) | exact r12_Uniq_short _ (by first | assumption | omega | exact Nat.le_trans (w12_few_len _) (by decide)) | exact Nat.lt_of_le_of_lt (w12_few_len _) (by decide) | decide | (simp only [List.length_append, List.length_cons, List.length_nil]; have := w12_few_len a0; omega)) ⟨0, Nat.zero_le _⟩ Q h)) (r12_VolumeR a0 a1 a2) (by kernel_rfl) (by kernel_rfl) (by kernel_rfl) ?_
  unfold r12_VolumeR
  refine ⟨need_cons (by (try refine fun (_ : _ = _) => ?_); first | assumption | omega | exact of_len _ (by first | assumption | omega | exact Nat.le_trans (w12_few_len _) (by decide)) | exact r12_Uniq_len _ (by first | assumption | omega | exact Nat.le_trans (w12_few_len _) (by decide)) | exact Nat.le_trans (w12_few_len _) (by decide) | decide | (simp only [List.length_append, List.length_cons, List.length_nil]; have := w12_few_len a0; omega)) (need_nil), ?_⟩
  refine ⟨need_cons (by (try refine fun (_ : _ = _) => ?_); first | assumption | omega | exact of_short _ (by first | assumption | omega | exact Nat.le_trans (w12_few_len _) (by decide)) | exact r12_Uniq_short _ (by first | assumption | omega | exact Nat.le_trans (w12_few_len _) (by decide)) | exact Nat.lt_of_le_of_lt (w12_few_len _) (by decide) | decide | (simp only [List.length_append, List.length_cons, List.length_nil]; have := w12_few_len a0; omega)) (need_nil), ?_⟩
  refine ⟨fun h0 => ?_, fun h0 => ?_⟩
  · have hF : r12_VolumeF a0 a1 a2 = (default : XAct) := by first | exact (cond_t h0 rfl) | simp only [r12_VolumeF, h0, cond_true, cond_false]
    exact ⟨trivial, .inl (by first | (rw [hF]; kernel_rfl) | kernel_rfl), by first | (rw [hF]; kernel_rfl) | kernel_rfl⟩
  · refine ⟨fun h1 => ?_, fun h1 => ?_⟩
    · refine ⟨fun h2 => ?_, fun h2 => ?_⟩
      · have hF : r12_VolumeF a0 a1 a2 = (default : XAct) := by first | exact (cond_f h0 (cond_t h1 (cond_t h2 rfl))) | simp only [r12_VolumeF, h0, h1, h2, cond_true, cond_false]
        exact ⟨trivial, .inl (by first | (rw [hF]; kernel_rfl) | kernel_rfl), by first | (rw [hF]; kernel_rfl) | kernel_rfl⟩
      · have hF : r12_VolumeF a0 a1 a2 = (r12_WriteF ({ ((r12_GetF (r12_UniqF a0) (4 : Int) a2).1) with phase := (6 : Int), num := (IntKind.u64.wrap (a1 + (1 : Int))) } : XObj)) := by first | exact (cond_f h0 (cond_t h1 (cond_f h2 rfl))) | simp only [r12_VolumeF, h0, h1, h2, cond_true, cond_false]
        exact ⟨trivial, .inl (by first | (rw [hF]; kernel_rfl) | kernel_rfl), by first | (rw [hF]; kernel_rfl) | kernel_rfl⟩
    · refine ⟨fun h2 => ?_, fun h2 => ?_⟩
      · refine ⟨fun h3 => ?_, fun h3 => ?_⟩
        · have hF : r12_VolumeF a0 a1 a2 = (default : XAct) := by first | exact (cond_f h0 (cond_f h1 (cond_t h2 (cond_t h3 rfl)))) | simp only [r12_VolumeF, h0, h1, h2, h3, cond_true, cond_false]
          exact ⟨trivial, .inl (by first | (rw [hF]; kernel_rfl) | kernel_rfl), by first | (rw [hF]; kernel_rfl) | kernel_rfl⟩
        · refine ⟨fun h4 => ?_, fun h4 => ?_⟩
          · have hF : r12_VolumeF a0 a1 a2 = (r12_WriteF ({ ((r12_GetF (r12_UniqF a0) (4 : Int) a2).1) with phase := (5 : Int) } : XObj)) := by first | exact (cond_f h0 (cond_f h1 (cond_t h2 (cond_f h3 (cond_t h4 rfl))))) | simp only [r12_VolumeF, h0, h1, h2, h3, h4, cond_true, cond_false]
            exact ⟨trivial, .inl (by first | (rw [hF]; kernel_rfl) | kernel_rfl), by first | (rw [hF]; kernel_rfl) | kernel_rfl⟩
          · have hF : r12_VolumeF a0 a1 a2 = (r12_WriteF ({ ((r12_GetF (r12_UniqF a0) (4 : Int) a2).1) with phase := (6 : Int), num := (IntKind.u64.wrap (a1 + (1 : Int))) } : XObj)) := by first | exact (cond_f h0 (cond_f h1 (cond_t h2 (cond_f h3 (cond_f h4 rfl))))) | simp only [r12_VolumeF, h0, h1, h2, h3, h4, cond_true, cond_false]
            exact ⟨trivial, .inl (by first | (rw [hF]; kernel_rfl) | kernel_rfl), by first | (rw [hF]; kernel_rfl) | kernel_rfl⟩
      · refine ⟨fun h3 => ?_, fun h3 => ?_⟩
        · refine ⟨fun h4 => ?_, fun h4 => ?_⟩
          · have hF : r12_VolumeF a0 a1 a2 = (default : XAct) := by first | exact (cond_f h0 (cond_f h1 (cond_f h2 (cond_t h3 (cond_t h4 rfl))))) | simp only [r12_VolumeF, h0, h1, h2, h3, h4, cond_true, cond_false]
            exact ⟨trivial, .inl (by first | (rw [hF]; kernel_rfl) | kernel_rfl), by first | (rw [hF]; kernel_rfl) | kernel_rfl⟩
          · have hF : r12_VolumeF a0 a1 a2 = (r12_AskF (⟨(2 : Int), a2, (((r12_GetF (r12_UniqF a0) (4 : Int) a2).1).num), (0 : Int), (⟨#[]⟩ : ByteArray), (⟨#[]⟩ : ByteArray), (⟨#[]⟩ : ByteArray)⟩ : XCall)) := by first | exact (cond_f h0 (cond_f h1 (cond_f h2 (cond_t h3 (cond_f h4 rfl))))) | simp only [r12_VolumeF, h0, h1, h2, h3, h4, cond_true, cond_false]
            exact ⟨trivial, .inl (by first | (rw [hF]; kernel_rfl) | kernel_rfl), by first | (rw [hF]; kernel_rfl) | kernel_rfl⟩
        · have hF : r12_VolumeF a0 a1 a2 = (default : XAct) := by first | exact (cond_f h0 (cond_f h1 (cond_f h2 (cond_f h3 rfl)))) | simp only [r12_VolumeF, h0, h1, h2, h3, cond_true, cond_false]
          exact ⟨trivial, .inl (by first | (rw [hF]; kernel_rfl) | kernel_rfl), by first | (rw [hF]; kernel_rfl) | kernel_rfl⟩
noncomputable def r12_Volume_fact : Fact Tryd.prog := factOf 23 Tryd.f23 (by kernel_rfl) rfl (by kernel_rfl) [.c (.coll .obj), .c (.int .u64), .c (.str)] [] true (fun t u => .agg (ac (r12_VolumeF t.1 t.2.1 t.2.2.1))) (fun t u => []) (fun t u => [t.1.length ≤ 64, ∀ o ∈ t.1, o.Fine])
  (fun _ _ _ => rfl) (fun t u => by kernel_rfl) (fun t u => by kernel_rfl) (fun t u h => r12_VolumeF_tr t.1 t.2.1 t.2.2.1 (h _ List.mem_cons_self) (h _ (List.mem_cons_of_mem _ List.mem_cons_self)))
end Go.Proofs.YtnfmnipckcidlaaDoor
