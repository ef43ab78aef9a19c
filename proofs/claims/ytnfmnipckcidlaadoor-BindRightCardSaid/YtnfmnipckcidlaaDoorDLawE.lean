/- Bind: laws. -/
import Derived.Test.YtnfmnipckcidlaaDoorDFirst
set_option linter.unusedVariables false
set_option linter.unusedSimpArgs false
set_option maxRecDepth 100000
namespace Go.Proofs.YtnfmnipckcidlaaDoor
open Go Go.Eng
noncomputable def E_w12_BindKeeps : Env := envOf (P := Tryd.prog) [w12_few_fact, bind_Volume_fact, w12_live_fact, r12_Ref_fact, r12_Get_fact, w12_first_fact] [] [] ckf
def w12_BindKeepsLF (a0 : List XObj) (a1 : Int) (a2 : ByteArray) : List XObj → Nat → Bool
  | [], i => false
  | o :: r, i => cond (cond (cond ((o.kind) == (3 : Int)) (!(decide (((bind_VolumeF (w12_fewF a0) a1 a2).obj.claim) = (⟨#[]⟩ : ByteArray)))) false) (decide ((r12_RefF o) = ((bind_VolumeF (w12_fewF a0) a1 a2).obj.claim))) false)
    (cond (cond ((((r12_GetF (w12_fewF a0) (4 : Int) a2).1).phase) == (3 : Int)) (w12_firstF (w12_fewF a0) (i : Int)) false)
      true
      (w12_BindKeepsLF a0 a1 a2 r (i + 1)))
    (w12_BindKeepsLF a0 a1 a2 r (i + 1))
def w12_BindKeepsLS (a0 : List XObj) (a1 : Int) (a2 : ByteArray) (i : Nat) : St :=
  ⟨slots 101 [(0, .coll ⟨.obj, w12_fewF a0⟩), (1, .int .u64 a1), (2, .str a2), (7, .ptr 0 0), (8, .int .i64 (i : Int))], [.cells 36 (ac (bind_VolumeF (w12_fewF a0) a1 a2))]⟩
def w12_BindKeepsLR (a0 : List XObj) (a1 : Int) (a2 : ByteArray) (i : Nat) : RT :=
  (.ask (decide ((i : Int) < ((w12_fewF a0).length : Int)))
    (.need [0 ≤ (i : Int) ∧ (i : Int) < ((w12_fewF a0).length : Int), ((cond ((((w12_fewF a0).getD i default).kind) == (3 : Int)) (!(decide (((bind_VolumeF (w12_fewF a0) a1 a2).obj.claim) = (⟨#[]⟩ : ByteArray)))) false) = true) → (0 ≤ (i : Int) ∧ (i : Int) < ((w12_fewF a0).length : Int)), ((cond ((((w12_fewF a0).getD i default).kind) == (3 : Int)) (!(decide (((bind_VolumeF (w12_fewF a0) a1 a2).obj.claim) = (⟨#[]⟩ : ByteArray)))) false) = true) → (((w12_fewF a0).getD i default).Fine)]
      (.ask (cond (cond ((((w12_fewF a0).getD i default).kind) == (3 : Int)) (!(decide (((bind_VolumeF (w12_fewF a0) a1 a2).obj.claim) = (⟨#[]⟩ : ByteArray)))) false) (decide ((r12_RefF ((w12_fewF a0).getD i default)) = ((bind_VolumeF (w12_fewF a0) a1 a2).obj.claim))) false)
        (.need [(w12_fewF a0).length < 4611686018427387904]
          (.need [(((((r12_GetF (w12_fewF a0) (4 : Int) a2).1).phase) == (3 : Int)) = true) → ((w12_fewF a0).length < 4611686018427387904), (((((r12_GetF (w12_fewF a0) (4 : Int) a2).1).phase) == (3 : Int)) = true) → (0 ≤ (i : Int)), (((((r12_GetF (w12_fewF a0) (4 : Int) a2).1).phase) == (3 : Int)) = true) → ((i : Int) < ((w12_fewF a0).length : Int))]
            (.ask (cond ((((r12_GetF (w12_fewF a0) (4 : Int) a2).1).phase) == (3 : Int)) (w12_firstF (w12_fewF a0) (i : Int)) false)
              (.leaf .ret ⟨slots 101 [(6, .bool false)], []⟩ [])
              (.leaf .normal ⟨slots 101 [(0, .coll ⟨.obj, w12_fewF a0⟩), (1, .int .u64 a1), (2, .str a2), (7, .ptr 0 0), (8, .int .i64 (IntKind.i64.wrap ((i : Int) + (1 : Int))))], [.cells 36 (ac (bind_VolumeF (w12_fewF a0) a1 a2))]⟩ []))))
        (.leaf .normal ⟨slots 101 [(0, .coll ⟨.obj, w12_fewF a0⟩), (1, .int .u64 a1), (2, .str a2), (7, .ptr 0 0), (8, .int .i64 (IntKind.i64.wrap ((i : Int) + (1 : Int))))], [.cells 36 (ac (bind_VolumeF (w12_fewF a0) a1 a2))]⟩ [])))
    (.leaf (.exit 0) ⟨slots 101 [(1, .int .u64 a1), (7, .ptr 0 0)], [.cells 36 (ac (bind_VolumeF (w12_fewF a0) a1 a2))]⟩ []))
def w12_BindKeepsLT (a0 : List XObj) (a1 : Int) (a2 : ByteArray) (i : Nat) : Tree :=
  .ask (w12_BindKeepsLF a0 a1 a2 ((w12_fewF a0).drop i) i) (.leaf .ret ⟨slots 101 [(6, .bool false)], []⟩) (.leaf (.exit 0) ⟨slots 101 [(1, .int .u64 a1), (7, .ptr 0 0)], [.cells 36 (ac (bind_VolumeF (w12_fewF a0) a1 a2))]⟩)
theorem w12_BindKeepsL_loop (a0 : List XObj) (a1 : Int) (a2 : ByteArray) (hp0 : ∀ o ∈ a0, o.Fine) (hlen : (w12_fewF a0).length < 4611686018427387904) (z : { z : Nat // z ≤ (w12_fewF a0).length }) (Q : Exit → St → Prop) (h : (w12_BindKeepsLT a0 a1 a2 z.1).All Q) : Tr Tryd.prog 0 (.loop (loopAt Tryd.f8 0)) (w12_BindKeepsLS a0 a1 a2 z.1) Q := by
  refine Tr_loopT (kok _ _ _ _ _ _) (E := E_w12_BindKeeps) (ι := { z : Nat // z ≤ (w12_fewF a0).length }) 60 0 (fun _ => noLoops) (fun z => w12_BindKeepsLS a0 a1 a2 z.1) (fun z => w12_BindKeepsLT a0 a1 a2 z.1) (fun z => w12_BindKeepsLR a0 a1 a2 z.1) (fun z => (w12_fewF a0).length - z.1) (fun _ => LoopsOk.none) (fun z => by obtain ⟨i, hi⟩ := z; kernel_rfl) (fun z => by obtain ⟨i, hi⟩ := z; kernel_rfl) (fun z => by obtain ⟨i, hi⟩ := z; kernel_rfl) ?_ z Q h
  rintro ⟨i, hi⟩ Q hT
  replace hT : (w12_BindKeepsLT a0 a1 a2 i).All Q := hT
  replace hi : i ≤ (w12_fewF a0).length := hi
  show (w12_BindKeepsLR a0 a1 a2 i).All _
  unfold w12_BindKeepsLR
  refine ⟨fun h0 => ?_, fun h0 => ?_⟩
  · have hlt : i < (w12_fewF a0).length := by simpa using h0
    have hd := drop_getD hlt
    have hw := wrap_succ (i := i) (by omega)
    refine ⟨need_cons (by first | assumption | omega | (intro; omega) | (simp only [decide_eq_true_eq, decide_eq_false_iff_not, Bool.cond_false_right, Bool.cond_true_right, Bool.cond_true_left, Bool.cond_false_left, Bool.and_eq_true, Bool.or_eq_true, Bool.not_eq_true', bytesLim, maxLen, List.length_cons, List.length_nil, List.length_append, byteSize_lit] at *; omega) | (intro; simp only [decide_eq_true_eq, decide_eq_false_iff_not, Bool.cond_false_right, Bool.cond_true_right, Bool.cond_true_left, Bool.cond_false_left, Bool.and_eq_true, Bool.or_eq_true, Bool.not_eq_true', bytesLim, maxLen, List.length_cons, List.length_nil, List.length_append, byteSize_lit] at *; omega)) (need_cons (by first | assumption | omega | (intro; omega) | (simp only [decide_eq_true_eq, decide_eq_false_iff_not, Bool.cond_false_right, Bool.cond_true_right, Bool.cond_true_left, Bool.cond_false_left, Bool.and_eq_true, Bool.or_eq_true, Bool.not_eq_true', bytesLim, maxLen, List.length_cons, List.length_nil, List.length_append, byteSize_lit] at *; omega) | (intro; simp only [decide_eq_true_eq, decide_eq_false_iff_not, Bool.cond_false_right, Bool.cond_true_right, Bool.cond_true_left, Bool.cond_false_left, Bool.and_eq_true, Bool.or_eq_true, Bool.not_eq_true', bytesLim, maxLen, List.length_cons, List.length_nil, List.length_append, byteSize_lit] at *; omega)) (need_cons (by (try refine fun (_ : _ = _) => ?_); first | assumption | exact get_fine _ _ _ (by first | assumption | exact of_fine _ (by first | assumption | exact w12_few_fine (by assumption)) | exact r12_Uniq_fine _ (by first | assumption | exact w12_few_fine (by assumption)) | exact w12_few_fine (by assumption)) | exact r12_Get_fine _ _ _ (by first | assumption | exact of_fine _ (by first | assumption | exact w12_few_fine (by assumption)) | exact r12_Uniq_fine _ (by first | assumption | exact w12_few_fine (by assumption)) | exact w12_few_fine (by assumption)) | exact fine_default | exact hp1 _ (gD_mem (by assumption)) | exact r12_Uniq_fine _ (by assumption) _ (gD_mem (by assumption)) | exact of_fine _ (by assumption) _ (gD_mem (by assumption)) | exact w12_few_fine (by assumption) _ (gD_mem (by assumption)) | exact hp1 | exact hp0 | (refine ⟨?_, ?_, ?_, ?_, ?_, ?_, ?_, ?_, ?_⟩ <;> first | assumption | decide | (simp only [size_mk]; decide))) (need_nil))), ?_⟩
    refine ⟨fun h1 => ?_, fun h1 => ?_⟩
    · refine ⟨need_cons (by (try refine fun (_ : _ = _) => ?_); first | assumption | omega | exact of_short _ (by first | assumption | omega | exact Nat.le_trans (w12_few_len _) (by decide)) | exact r12_Uniq_short _ (by first | assumption | omega | exact Nat.le_trans (w12_few_len _) (by decide)) | exact Nat.lt_of_le_of_lt (w12_few_len _) (by decide) | decide | (simp only [List.length_append, List.length_cons, List.length_nil]; have := w12_few_len a0; omega)) (need_nil), ?_⟩
      refine ⟨need_cons (by (try refine fun (_ : _ = _) => ?_); first | assumption | omega | exact of_short _ (by first | assumption | omega | exact Nat.le_trans (w12_few_len _) (by decide)) | exact r12_Uniq_short _ (by first | assumption | omega | exact Nat.le_trans (w12_few_len _) (by decide)) | exact Nat.lt_of_le_of_lt (w12_few_len _) (by decide) | decide | (simp only [List.length_append, List.length_cons, List.length_nil]; have := w12_few_len a0; omega)) (need_cons (by first | assumption | omega | (intro; omega) | (simp only [decide_eq_true_eq, decide_eq_false_iff_not, Bool.cond_false_right, Bool.cond_true_right, Bool.cond_true_left, Bool.cond_false_left, Bool.and_eq_true, Bool.or_eq_true, Bool.not_eq_true', bytesLim, maxLen, List.length_cons, List.length_nil, List.length_append, byteSize_lit] at *; omega) | (intro; simp only [decide_eq_true_eq, decide_eq_false_iff_not, Bool.cond_false_right, Bool.cond_true_right, Bool.cond_true_left, Bool.cond_false_left, Bool.and_eq_true, Bool.or_eq_true, Bool.not_eq_true', bytesLim, maxLen, List.length_cons, List.length_nil, List.length_append, byteSize_lit] at *; omega)) (need_cons (by first | assumption | omega | (intro; omega) | (simp only [decide_eq_true_eq, decide_eq_false_iff_not, Bool.cond_false_right, Bool.cond_true_right, Bool.cond_true_left, Bool.cond_false_left, Bool.and_eq_true, Bool.or_eq_true, Bool.not_eq_true', bytesLim, maxLen, List.length_cons, List.length_nil, List.length_append, byteSize_lit] at *; omega) | (intro; simp only [decide_eq_true_eq, decide_eq_false_iff_not, Bool.cond_false_right, Bool.cond_true_right, Bool.cond_true_left, Bool.cond_false_left, Bool.and_eq_true, Bool.or_eq_true, Bool.not_eq_true', bytesLim, maxLen, List.length_cons, List.length_nil, List.length_append, byteSize_lit] at *; omega)) (need_nil))), ?_⟩
      refine ⟨fun h2 => ?_, fun h2 => ?_⟩
      · have hF : w12_BindKeepsLF a0 a1 a2 ((w12_fewF a0).drop i) i = true := by rw [hd]; first | exact (cond_t h1 (cond_t h2 rfl)) | simp only [w12_BindKeepsLF, h0, h1, h2, cond_true, cond_false]
        unfold w12_BindKeepsLT at hT
        rw [hF] at hT
        exact hT.1 rfl
      · have hF : w12_BindKeepsLF a0 a1 a2 ((w12_fewF a0).drop i) i = w12_BindKeepsLF a0 a1 a2 ((w12_fewF a0).drop (i + 1)) (i + 1) := by rw [hd]; first | exact (cond_t h1 (cond_f h2 rfl)) | simp only [w12_BindKeepsLF, h0, h1, h2, cond_true, cond_false]
        refine ⟨⟨(i + 1), by show (i + 1) ≤ (w12_fewF a0).length; omega⟩, by show (w12_fewF a0).length - (i + 1) < (w12_fewF a0).length - i; omega, ?_, ?_⟩
        · show _ = w12_BindKeepsLS a0 a1 a2 (i + 1)
          unfold w12_BindKeepsLS
          simp only [hw]
        · show (w12_BindKeepsLT a0 a1 a2 (i + 1)).All Q
          unfold w12_BindKeepsLT at hT ⊢
          rw [hF] at hT
          exact hT
    · have hF : w12_BindKeepsLF a0 a1 a2 ((w12_fewF a0).drop i) i = w12_BindKeepsLF a0 a1 a2 ((w12_fewF a0).drop (i + 1)) (i + 1) := by rw [hd]; first | exact (cond_f h1 rfl) | simp only [w12_BindKeepsLF, h0, h1, cond_true, cond_false]
      refine ⟨⟨(i + 1), by show (i + 1) ≤ (w12_fewF a0).length; omega⟩, by show (w12_fewF a0).length - (i + 1) < (w12_fewF a0).length - i; omega, ?_, ?_⟩
      · show _ = w12_BindKeepsLS a0 a1 a2 (i + 1)
        unfold w12_BindKeepsLS
        simp only [hw]
      · show (w12_BindKeepsLT a0 a1 a2 (i + 1)).All Q
        unfold w12_BindKeepsLT at hT ⊢
        rw [hF] at hT
        exact hT
  · have hge : ¬ i < (w12_fewF a0).length := by simpa using h0
    have hd : (w12_fewF a0).drop i = [] := List.drop_eq_nil_of_le (by omega)
    have hF : w12_BindKeepsLF a0 a1 a2 ((w12_fewF a0).drop i) i = false := by rw [hd]; first | exact rfl | simp only [w12_BindKeepsLF, h0, cond_true, cond_false]
    unfold w12_BindKeepsLT at hT
    rw [hF] at hT
    exact hT.2 rfl
def w12_BindKeepsF (a0 : List XObj) (a1 : Int) (a2 : ByteArray) : Bool :=
  cond (cond (!(((bind_VolumeF (w12_fewF a0) a1 a2).act) == (1 : Int))) true (!(((bind_VolumeF (w12_fewF a0) a1 a2).obj.phase) == (6 : Int))))
    (cond w12_liveF (cond (!(((bind_VolumeF (w12_fewF a0) a1 a2).act) == (1 : Int))) true (cond (((bind_VolumeF (w12_fewF a0) a1 a2).obj.phase) == (5 : Int)) ((bind_VolumeF (w12_fewF a0) a1 a2).obj.keep) false)) false)
    (cond (w12_BindKeepsLF a0 a1 a2 (w12_fewF a0) 0)
      false
      (cond (cond w12_liveF (!((bind_VolumeF (w12_fewF a0) a1 a2).obj.keep)) false) (((bind_VolumeF (w12_fewF a0) a1 a2).obj.num) == (IntKind.u64.wrap (a1 + (1 : Int)))) false))
def w12_BindKeepsR (a0 : List XObj) (a1 : Int) (a2 : ByteArray) : RT :=
  (.need [(w12_fewF a0).length ≤ 64, ∀ o ∈ (w12_fewF a0), o.Fine]
    (.ask (cond (!(((bind_VolumeF (w12_fewF a0) a1 a2).act) == (1 : Int))) true (!(((bind_VolumeF (w12_fewF a0) a1 a2).obj.phase) == (6 : Int))))
      (.leaf .ret ⟨slots 101 [(6, .bool (cond w12_liveF (cond (!(((bind_VolumeF (w12_fewF a0) a1 a2).act) == (1 : Int))) true (cond (((bind_VolumeF (w12_fewF a0) a1 a2).obj.phase) == (5 : Int)) ((bind_VolumeF (w12_fewF a0) a1 a2).obj.keep) false)) false))], []⟩ [])
      (.ask (w12_BindKeepsLF a0 a1 a2 (w12_fewF a0) 0)
        (.leaf .ret ⟨slots 101 [(6, .bool false)], []⟩ [])
        (.leaf .ret ⟨slots 101 [(6, .bool (cond (cond w12_liveF (!((bind_VolumeF (w12_fewF a0) a1 a2).obj.keep)) false) (((bind_VolumeF (w12_fewF a0) a1 a2).obj.num) == (IntKind.u64.wrap (a1 + (1 : Int)))) false))], []⟩ []))))
theorem w12_BindKeepsF_tr (a0 : List XObj) (a1 : Int) (a2 : ByteArray) (hp0 : ∀ o ∈ a0, o.Fine) : Tr Tryd.prog 0 (bodyOf Tryd.f8) (fnBegins Tryd.f8 [.coll ⟨.obj, a0⟩, .int .u64 a1, .str a2] []) (fnEnds Tryd.prog Tryd.f8 (.bool (w12_BindKeepsF a0 a1 a2)) []) := by
  refine Tr_tree (kok _ _ _ _ _ _) (E := E_w12_BindKeeps) (L := (loopsOf [(0, w12_BindKeepsLS a0 a1 a2 0, [], w12_BindKeepsLT a0 a1 a2 0)])) 60 9999 (LoopsOk.one (g := loopAt Tryd.f8 0) (b := 0) (by kernel_rfl) (by kernel_rfl) (by kernel_rfl) (by kernel_rfl) (fun Q h => w12_BindKeepsL_loop a0 a1 a2 hp0 (by first | assumption | omega | exact of_short _ (by first | assumption | omega | exact Nat.le_trans (w12_few_len _) (by decide)) | exact r12_Uniq_short _ (by first | assumption | omega | exact Nat.le_trans (w12_few_len _) (by decide)) | exact Nat.lt_of_le_of_lt (w12_few_len _) (by decide) | decide | (simp only [List.length_append, List.length_cons, List.length_nil]; have := w12_few_len a0; omega)) ⟨0, Nat.zero_le _⟩ Q h)) (w12_BindKeepsR a0 a1 a2) (by kernel_rfl) (by kernel_rfl) (by kernel_rfl) ?_
  unfold w12_BindKeepsR
  refine ⟨need_cons (by (try refine fun (_ : _ = _) => ?_); first | assumption | omega | exact of_len _ (by first | assumption | omega | exact Nat.le_trans (w12_few_len _) (by decide)) | exact r12_Uniq_len _ (by first | assumption | omega | exact Nat.le_trans (w12_few_len _) (by decide)) | exact Nat.le_trans (w12_few_len _) (by decide) | decide | (simp only [List.length_append, List.length_cons, List.length_nil]; have := w12_few_len a0; omega)) (need_cons (by (try refine fun (_ : _ = _) => ?_); first | assumption | exact of_fine _ (by first | assumption | exact w12_few_fine (by assumption)) | exact r12_Uniq_fine _ (by first | assumption | exact w12_few_fine (by assumption)) | exact w12_few_fine (by assumption) | exact cons2_fine hp1 ⟨hp1.2.2.2.2.2.2.2.1, Int.le_refl 0, (by decide : (0 : Int) ≤ 18446744073709551615), Nat.zero_le _, Nat.zero_le _, Nat.zero_le _, ref_size _, Nat.zero_le _, Nat.zero_le _⟩ (w12_few_fine hp0) | (simp only [List.mem_cons, List.not_mem_nil, or_false, forall_eq_or_imp, forall_eq, XObj.Fine, size_mk]; decide)) (need_nil)), ?_⟩
  refine ⟨fun h0 => ?_, fun h0 => ?_⟩
  · have hF : w12_BindKeepsF a0 a1 a2 = cond w12_liveF (cond (!(((bind_VolumeF (w12_fewF a0) a1 a2).act) == (1 : Int))) true (cond (((bind_VolumeF (w12_fewF a0) a1 a2).obj.phase) == (5 : Int)) ((bind_VolumeF (w12_fewF a0) a1 a2).obj.keep) false)) false := by first | exact (cond_t h0 rfl) | simp only [w12_BindKeepsF, h0, cond_true, cond_false]
    exact ⟨trivial, .inl (by first | (rw [hF]; kernel_rfl) | kernel_rfl), by first | (rw [hF]; kernel_rfl) | kernel_rfl⟩
  · refine ⟨fun h1 => ?_, fun h1 => ?_⟩
    · have hF : w12_BindKeepsF a0 a1 a2 = false := by first | exact (cond_f h0 (cond_t h1 rfl)) | simp only [w12_BindKeepsF, h0, h1, cond_true, cond_false]
      exact ⟨trivial, .inl (by first | (rw [hF]; kernel_rfl) | kernel_rfl), by first | (rw [hF]; kernel_rfl) | kernel_rfl⟩
    · have hF : w12_BindKeepsF a0 a1 a2 = cond (cond w12_liveF (!((bind_VolumeF (w12_fewF a0) a1 a2).obj.keep)) false) (((bind_VolumeF (w12_fewF a0) a1 a2).obj.num) == (IntKind.u64.wrap (a1 + (1 : Int)))) false := by first | exact (cond_f h0 (cond_f h1 rfl)) | simp only [w12_BindKeepsF, h0, h1, cond_true, cond_false]
      exact ⟨trivial, .inl (by first | (rw [hF]; kernel_rfl) | kernel_rfl), by first | (rw [hF]; kernel_rfl) | kernel_rfl⟩
end Go.Proofs.YtnfmnipckcidlaaDoor
