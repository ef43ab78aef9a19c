/- Attach: one of each name. -/
import Derived.Test.YtbcnehpndoghcaaDWanted
set_option linter.unusedVariables false
set_option linter.unusedSimpArgs false
set_option maxRecDepth 100000
namespace Go.Proofs.Ytbcnehpndoghcaa
open Go Go.Eng
noncomputable def E_r12_Get : Env := envOf (P := Try.prog) [] [] [] ckf
def r12_GetLF (a1 : Int) (a2 : ByteArray) : List XObj → Bool × XObj
  | [] => (false, default)
  | o :: r => cond (cond ((o.kind) == a1) (decide ((o.name) = a2)) false)
    (true, o)
    (r12_GetLF a1 a2 r)
def r12_GetLS (a0 : List XObj) (a1 : Int) (a2 : ByteArray) (i : Nat) : St :=
  ⟨slots 36 [(0, .coll ⟨.obj, a0⟩), (1, .int .u8 a1), (2, .str a2), (6, .ptr 0 0), (8, .int .i64 (i : Int))], [.cells 37 [.int .u8 0, .str (⟨#[]⟩ : ByteArray), .int .u64 0, .int .u64 0, .bool false, .bool false, .str (⟨#[]⟩ : ByteArray), .int .i64 0, .int .i64 0, .int .u8 0, .bool false, .bool false, .str (⟨#[]⟩ : ByteArray), .str (⟨#[]⟩ : ByteArray), .str (⟨#[]⟩ : ByteArray), .str (⟨#[]⟩ : ByteArray), .str (⟨#[]⟩ : ByteArray), .int .u8 0, .int .u64 0, .int .u64 0]]⟩
def r12_GetLR (a0 : List XObj) (a1 : Int) (a2 : ByteArray) (i : Nat) : RT :=
  (.ask (decide ((i : Int) < (a0.length : Int)))
    (.need [0 ≤ (i : Int) ∧ (i : Int) < (a0.length : Int)]
      (.need [((((a0.getD i default).kind) == a1) = true) → (0 ≤ (i : Int) ∧ (i : Int) < (a0.length : Int))]
        (.ask (cond (((a0.getD i default).kind) == a1) (decide (((a0.getD i default).name) = a2)) false)
          (.need [0 ≤ (i : Int) ∧ (i : Int) < (a0.length : Int)]
            (.leaf .ret ⟨slots 36 [(6, .ptr 0 0), (7, .bool true)], [.cells 37 (oc (a0.getD i default))]⟩ []))
          (.leaf .normal ⟨slots 36 [(0, .coll ⟨.obj, a0⟩), (1, .int .u8 a1), (2, .str a2), (6, .ptr 0 0), (8, .int .i64 (IntKind.i64.wrap ((i : Int) + (1 : Int))))], [.cells 37 [.int .u8 0, .str (⟨#[]⟩ : ByteArray), .int .u64 0, .int .u64 0, .bool false, .bool false, .str (⟨#[]⟩ : ByteArray), .int .i64 0, .int .i64 0, .int .u8 0, .bool false, .bool false, .str (⟨#[]⟩ : ByteArray), .str (⟨#[]⟩ : ByteArray), .str (⟨#[]⟩ : ByteArray), .str (⟨#[]⟩ : ByteArray), .str (⟨#[]⟩ : ByteArray), .int .u8 0, .int .u64 0, .int .u64 0]]⟩ []))))
    (.leaf (.exit 0) ⟨slots 36 [(6, .ptr 0 0)], [.cells 37 [.int .u8 0, .str (⟨#[]⟩ : ByteArray), .int .u64 0, .int .u64 0, .bool false, .bool false, .str (⟨#[]⟩ : ByteArray), .int .i64 0, .int .i64 0, .int .u8 0, .bool false, .bool false, .str (⟨#[]⟩ : ByteArray), .str (⟨#[]⟩ : ByteArray), .str (⟨#[]⟩ : ByteArray), .str (⟨#[]⟩ : ByteArray), .str (⟨#[]⟩ : ByteArray), .int .u8 0, .int .u64 0, .int .u64 0]]⟩ []))
def r12_GetLT (a0 : List XObj) (a1 : Int) (a2 : ByteArray) (i : Nat) : Tree :=
  .ask ((r12_GetLF a1 a2 (a0.drop i)).1) (.leaf .ret ⟨slots 36 [(6, .ptr 0 0), (7, .bool true)], [.cells 37 (oc ((r12_GetLF a1 a2 (a0.drop i)).2))]⟩) (.leaf (.exit 0) ⟨slots 36 [(6, .ptr 0 0)], [.cells 37 [.int .u8 0, .str (⟨#[]⟩ : ByteArray), .int .u64 0, .int .u64 0, .bool false, .bool false, .str (⟨#[]⟩ : ByteArray), .int .i64 0, .int .i64 0, .int .u8 0, .bool false, .bool false, .str (⟨#[]⟩ : ByteArray), .str (⟨#[]⟩ : ByteArray), .str (⟨#[]⟩ : ByteArray), .str (⟨#[]⟩ : ByteArray), .str (⟨#[]⟩ : ByteArray), .int .u8 0, .int .u64 0, .int .u64 0]]⟩)
theorem r12_GetL_loop (a0 : List XObj) (a1 : Int) (a2 : ByteArray) (hp0 : a0.length < 4611686018427387904) (hlen : a0.length < 4611686018427387904) (z : { z : Nat // z ≤ a0.length }) (Q : Exit → St → Prop) (h : (r12_GetLT a0 a1 a2 z.1).All Q) : Tr Try.prog 0 (.loop (loopAt Try.f31 0)) (r12_GetLS a0 a1 a2 z.1) Q := by
  refine Tr_loopT (kok _ _ _ _ _ _) (E := E_r12_Get) (ι := { z : Nat // z ≤ a0.length }) 60 0 (fun _ => noLoops) (fun z => r12_GetLS a0 a1 a2 z.1) (fun z => r12_GetLT a0 a1 a2 z.1) (fun z => r12_GetLR a0 a1 a2 z.1) (fun z => a0.length - z.1) (fun _ => LoopsOk.none) (fun z => by obtain ⟨i, hi⟩ := z; kernel_rfl) (fun z => by obtain ⟨i, hi⟩ := z; kernel_rfl) (fun z => by obtain ⟨i, hi⟩ := z; kernel_rfl) ?_ z Q h
  rintro ⟨i, hi⟩ Q hT
  replace hT : (r12_GetLT a0 a1 a2 i).All Q := hT
  replace hi : i ≤ a0.length := hi
  show (r12_GetLR a0 a1 a2 i).All _
  unfold r12_GetLR
  refine ⟨fun h0 => ?_, fun h0 => ?_⟩
  · have hlt : i < a0.length := by simpa using h0
    have hd := drop_getD hlt
    have hw := wrap_succ (i := i) (by omega)
    refine ⟨need_cons (by first | assumption | omega | (intro; omega) | (simp only [decide_eq_true_eq, decide_eq_false_iff_not, Bool.cond_false_right, Bool.cond_true_right, Bool.cond_true_left, Bool.cond_false_left, Bool.and_eq_true, Bool.or_eq_true, Bool.not_eq_true', bytesLim, maxLen, List.length_cons, List.length_nil, List.length_append, byteSize_lit] at *; omega) | (intro; simp only [decide_eq_true_eq, decide_eq_false_iff_not, Bool.cond_false_right, Bool.cond_true_right, Bool.cond_true_left, Bool.cond_false_left, Bool.and_eq_true, Bool.or_eq_true, Bool.not_eq_true', bytesLim, maxLen, List.length_cons, List.length_nil, List.length_append, byteSize_lit] at *; omega)) (need_nil), ?_⟩
    refine ⟨need_cons (by first | assumption | omega | (intro; omega) | (simp only [decide_eq_true_eq, decide_eq_false_iff_not, Bool.cond_false_right, Bool.cond_true_right, Bool.cond_true_left, Bool.cond_false_left, Bool.and_eq_true, Bool.or_eq_true, Bool.not_eq_true', bytesLim, maxLen, List.length_cons, List.length_nil, List.length_append, byteSize_lit] at *; omega) | (intro; simp only [decide_eq_true_eq, decide_eq_false_iff_not, Bool.cond_false_right, Bool.cond_true_right, Bool.cond_true_left, Bool.cond_false_left, Bool.and_eq_true, Bool.or_eq_true, Bool.not_eq_true', bytesLim, maxLen, List.length_cons, List.length_nil, List.length_append, byteSize_lit] at *; omega)) (need_nil), ?_⟩
    refine ⟨fun h1 => ?_, fun h1 => ?_⟩
    · refine ⟨need_cons (by first | assumption | omega | (intro; omega) | (simp only [decide_eq_true_eq, decide_eq_false_iff_not, Bool.cond_false_right, Bool.cond_true_right, Bool.cond_true_left, Bool.cond_false_left, Bool.and_eq_true, Bool.or_eq_true, Bool.not_eq_true', bytesLim, maxLen, List.length_cons, List.length_nil, List.length_append, byteSize_lit] at *; omega) | (intro; simp only [decide_eq_true_eq, decide_eq_false_iff_not, Bool.cond_false_right, Bool.cond_true_right, Bool.cond_true_left, Bool.cond_false_left, Bool.and_eq_true, Bool.or_eq_true, Bool.not_eq_true', bytesLim, maxLen, List.length_cons, List.length_nil, List.length_append, byteSize_lit] at *; omega)) (need_nil), ?_⟩
      have hF : r12_GetLF a1 a2 (a0.drop i) = (true, (a0.getD i default)) := by rw [hd]; first | exact (cond_t h1 rfl) | simp only [r12_GetLF, h0, h1, cond_true, cond_false]
      unfold r12_GetLT at hT
      rw [hF] at hT
      exact hT.1 rfl
    · have hF : r12_GetLF a1 a2 (a0.drop i) = r12_GetLF a1 a2 (a0.drop (i + 1)) := by rw [hd]; first | exact (cond_f h1 rfl) | simp only [r12_GetLF, h0, h1, cond_true, cond_false]
      refine ⟨⟨(i + 1), by show (i + 1) ≤ a0.length; omega⟩, by show a0.length - (i + 1) < a0.length - i; omega, ?_, ?_⟩
      · show _ = r12_GetLS a0 a1 a2 (i + 1)
        unfold r12_GetLS
        simp only [hw]
      · show (r12_GetLT a0 a1 a2 (i + 1)).All Q
        unfold r12_GetLT at hT ⊢
        rw [hF] at hT
        exact hT
  · have hge : ¬ i < a0.length := by simpa using h0
    have hd : a0.drop i = [] := List.drop_eq_nil_of_le (by omega)
    have hF : r12_GetLF a1 a2 (a0.drop i) = (false, default) := by rw [hd]; first | exact rfl | simp only [r12_GetLF, h0, cond_true, cond_false]
    unfold r12_GetLT at hT
    rw [hF] at hT
    exact hT.2 rfl
def r12_GetF (a0 : List XObj) (a1 : Int) (a2 : ByteArray) : XObj × Bool :=
  cond ((r12_GetLF a1 a2 a0).1)
    (((r12_GetLF a1 a2 a0).2), true)
    ((default : XObj), false)
def r12_GetR (a0 : List XObj) (a1 : Int) (a2 : ByteArray) : RT :=
  (.ask ((r12_GetLF a1 a2 a0).1)
    (.leaf .ret ⟨slots 36 [(6, .ptr 0 0), (7, .bool true)], [.cells 37 (oc ((r12_GetLF a1 a2 a0).2))]⟩ [])
    (.leaf .ret ⟨slots 36 [(6, .ptr 0 0), (7, .bool false)], [.cells 37 [.int .u8 0, .str (⟨#[]⟩ : ByteArray), .int .u64 0, .int .u64 0, .bool false, .bool false, .str (⟨#[]⟩ : ByteArray), .int .i64 0, .int .i64 0, .int .u8 0, .bool false, .bool false, .str (⟨#[]⟩ : ByteArray), .str (⟨#[]⟩ : ByteArray), .str (⟨#[]⟩ : ByteArray), .str (⟨#[]⟩ : ByteArray), .str (⟨#[]⟩ : ByteArray), .int .u8 0, .int .u64 0, .int .u64 0]]⟩ []))
theorem r12_GetF_tr (a0 : List XObj) (a1 : Int) (a2 : ByteArray) (hp0 : a0.length < 4611686018427387904) : Tr Try.prog 0 (bodyOf Try.f31) (fnBegins Try.f31 [.coll ⟨.obj, a0⟩, .int .u8 a1, .str a2] []) (fnEnds Try.prog Try.f31 (.tup [.agg (oc ((r12_GetF a0 a1 a2).1)), .bool ((r12_GetF a0 a1 a2).2)]) []) := by
  refine Tr_tree (kok _ _ _ _ _ _) (E := E_r12_Get) (L := (loopsOf [(0, r12_GetLS a0 a1 a2 0, [], r12_GetLT a0 a1 a2 0)])) 60 9999 (LoopsOk.one (g := loopAt Try.f31 0) (b := 0) (by kernel_rfl) (by kernel_rfl) (by kernel_rfl) (by kernel_rfl) (fun Q h => r12_GetL_loop a0 a1 a2 hp0 (by first | assumption | omega | (simp only [List.length_cons, List.length_nil, List.length_append]; omega)) ⟨0, by first | exact Nat.zero_le _ | (show 0 ≤ a0.length; omega) | (show 0 ≤ a0.length; exact ⟨Nat.zero_le _, by assumption⟩) | (show 0 ≤ a0.length; simp)⟩ Q h)) (r12_GetR a0 a1 a2) (by kernel_rfl) (by kernel_rfl) (by kernel_rfl) ?_
  unfold r12_GetR
  refine ⟨fun h0 => ?_, fun h0 => ?_⟩
  · have hF : r12_GetF a0 a1 a2 = (((r12_GetLF a1 a2 a0).2), true) := by first | exact (cond_t h0 rfl) | simp only [r12_GetF, h0, cond_true, cond_false]
    exact ⟨trivial, .inl (by first | (rw [hF]; kernel_rfl) | kernel_rfl), by first | (rw [hF]; kernel_rfl) | kernel_rfl⟩
  · have hF : r12_GetF a0 a1 a2 = ((default : XObj), false) := by first | exact (cond_f h0 rfl) | simp only [r12_GetF, h0, cond_true, cond_false]
    exact ⟨trivial, .inl (by first | (rw [hF]; kernel_rfl) | kernel_rfl), by first | (rw [hF]; kernel_rfl) | kernel_rfl⟩
noncomputable def r12_Get_fact : Fact Try.prog := factOf 31 Try.f31 (by kernel_rfl) rfl (by kernel_rfl) [.c (.coll .obj), .c (.int .u8), .c (.str)] [] true (fun t u => .tup [.agg (oc ((r12_GetF t.1 t.2.1 t.2.2.1).1)), .bool ((r12_GetF t.1 t.2.1 t.2.2.1).2)]) (fun t u => []) (fun t u => [t.1.length < 4611686018427387904])
  (fun _ _ _ => rfl) (fun t u => by kernel_rfl) (fun t u => by kernel_rfl) (fun t u h => r12_GetF_tr t.1 t.2.1 t.2.2.1 (h _ List.mem_cons_self))
noncomputable def E_r12_Uniq : Env := envOf (P := Try.prog) [r12_Get_fact] [] [] ckf
def r12_UniqLF  : List XObj → List XObj → List XObj
  | [], v2 => v2
  | o :: r, v2 => cond (!((r12_GetF v2 (o.kind) (o.name)).2))
    (r12_UniqLF r (v2 ++ [o]))
    (r12_UniqLF r v2)
def r12_UniqLS (a0 : List XObj) (i : Nat) (v2 : List XObj) : St :=
  ⟨slots 38 [(0, .coll ⟨.obj, a0⟩), (3, .vec 0), (4, .int .i64 (i : Int))], [.vec true ⟨.obj, v2⟩]⟩
def r12_UniqLR (a0 : List XObj) (i : Nat) (v2 : List XObj) : RT :=
  (.ask (decide ((i : Int) < (a0.length : Int)))
    (.need [0 ≤ (i : Int) ∧ (i : Int) < (a0.length : Int), 0 ≤ (i : Int) ∧ (i : Int) < (a0.length : Int), v2.length < 4611686018427387904]
      (.ask (!((r12_GetF v2 ((a0.getD i default).kind) ((a0.getD i default).name)).2))
        (.need [0 ≤ (i : Int) ∧ (i : Int) < (a0.length : Int)]
          (.need [(v2.length + [(a0.getD i default)].length) * 192 ≤ bytesLim ∧ v2.length + [(a0.getD i default)].length ≤ maxLen]
            (.leaf .normal ⟨slots 38 [(0, .coll ⟨.obj, a0⟩), (3, .vec 0), (4, .int .i64 (IntKind.i64.wrap ((i : Int) + (1 : Int))))], [.vec true ⟨.obj, (v2 ++ [(a0.getD i default)])⟩]⟩ [3])))
        (.leaf .normal ⟨slots 38 [(0, .coll ⟨.obj, a0⟩), (3, .vec 0), (4, .int .i64 (IntKind.i64.wrap ((i : Int) + (1 : Int))))], [.vec true ⟨.obj, v2⟩]⟩ [])))
    (.leaf (.exit 0) ⟨slots 38 [(3, .vec 0)], [.vec true ⟨.obj, v2⟩]⟩ []))
def r12_UniqLT (a0 : List XObj) (i : Nat) (v2 : List XObj) : Tree :=
  .leaf (.exit 0) ⟨slots 38 [(3, .vec 0)], [.vec true ⟨.obj, r12_UniqLF (a0.drop i) v2⟩]⟩
theorem r12_UniqL_loop (a0 : List XObj) (hp0 : a0.length ≤ 64) (hlen : a0.length < 4611686018427387904) (z : { z : Nat × List XObj // z.1 ≤ a0.length ∧ z.2.length ≤ z.1 }) (Q : Exit → St → Prop) (h : (r12_UniqLT a0 z.1.1 z.1.2).All Q) : Tr Try.prog 0 (.loop (loopAt Try.f30 0)) (r12_UniqLS a0 z.1.1 z.1.2) Q := by
  refine Tr_loopT (kok _ _ _ _ _ _) (E := E_r12_Uniq) (ι := { z : Nat × List XObj // z.1 ≤ a0.length ∧ z.2.length ≤ z.1 }) 60 0 (fun _ => noLoops) (fun z => r12_UniqLS a0 z.1.1 z.1.2) (fun z => r12_UniqLT a0 z.1.1 z.1.2) (fun z => r12_UniqLR a0 z.1.1 z.1.2) (fun z => a0.length - z.1.1) (fun _ => LoopsOk.none) (fun z => by obtain ⟨⟨i, v2⟩, hi⟩ := z; kernel_rfl) (fun z => by obtain ⟨⟨i, v2⟩, hi⟩ := z; kernel_rfl) (fun z => by obtain ⟨⟨i, v2⟩, hi⟩ := z; kernel_rfl) ?_ z Q h
  rintro ⟨⟨i, v2⟩, hi⟩ Q hT
  replace hT : (r12_UniqLT a0 i v2).All Q := hT
  replace hi : i ≤ a0.length ∧ v2.length ≤ i := hi
  show (r12_UniqLR a0 i v2).All _
  unfold r12_UniqLR
  refine ⟨fun h0 => ?_, fun h0 => ?_⟩
  · have hlt : i < a0.length := by simpa using h0
    have hd := drop_getD hlt
    have hw := wrap_succ (i := i) (by omega)
    refine ⟨need_cons (by first | assumption | omega | (intro; omega) | (simp only [decide_eq_true_eq, decide_eq_false_iff_not, Bool.cond_false_right, Bool.cond_true_right, Bool.cond_true_left, Bool.cond_false_left, Bool.and_eq_true, Bool.or_eq_true, Bool.not_eq_true', bytesLim, maxLen, List.length_cons, List.length_nil, List.length_append, byteSize_lit] at *; omega) | (intro; simp only [decide_eq_true_eq, decide_eq_false_iff_not, Bool.cond_false_right, Bool.cond_true_right, Bool.cond_true_left, Bool.cond_false_left, Bool.and_eq_true, Bool.or_eq_true, Bool.not_eq_true', bytesLim, maxLen, List.length_cons, List.length_nil, List.length_append, byteSize_lit] at *; omega)) (need_cons (by first | assumption | omega | (intro; omega) | (simp only [decide_eq_true_eq, decide_eq_false_iff_not, Bool.cond_false_right, Bool.cond_true_right, Bool.cond_true_left, Bool.cond_false_left, Bool.and_eq_true, Bool.or_eq_true, Bool.not_eq_true', bytesLim, maxLen, List.length_cons, List.length_nil, List.length_append, byteSize_lit] at *; omega) | (intro; simp only [decide_eq_true_eq, decide_eq_false_iff_not, Bool.cond_false_right, Bool.cond_true_right, Bool.cond_true_left, Bool.cond_false_left, Bool.and_eq_true, Bool.or_eq_true, Bool.not_eq_true', bytesLim, maxLen, List.length_cons, List.length_nil, List.length_append, byteSize_lit] at *; omega)) (need_cons (by first | assumption | omega | (intro; omega) | (simp only [decide_eq_true_eq, decide_eq_false_iff_not, Bool.cond_false_right, Bool.cond_true_right, Bool.cond_true_left, Bool.cond_false_left, Bool.and_eq_true, Bool.or_eq_true, Bool.not_eq_true', bytesLim, maxLen, List.length_cons, List.length_nil, List.length_append, byteSize_lit] at *; omega) | (intro; simp only [decide_eq_true_eq, decide_eq_false_iff_not, Bool.cond_false_right, Bool.cond_true_right, Bool.cond_true_left, Bool.cond_false_left, Bool.and_eq_true, Bool.or_eq_true, Bool.not_eq_true', bytesLim, maxLen, List.length_cons, List.length_nil, List.length_append, byteSize_lit] at *; omega)) (need_nil))), ?_⟩
    refine ⟨fun h1 => ?_, fun h1 => ?_⟩
    · refine ⟨need_cons (by first | assumption | omega | (intro; omega) | (simp only [decide_eq_true_eq, decide_eq_false_iff_not, Bool.cond_false_right, Bool.cond_true_right, Bool.cond_true_left, Bool.cond_false_left, Bool.and_eq_true, Bool.or_eq_true, Bool.not_eq_true', bytesLim, maxLen, List.length_cons, List.length_nil, List.length_append, byteSize_lit] at *; omega) | (intro; simp only [decide_eq_true_eq, decide_eq_false_iff_not, Bool.cond_false_right, Bool.cond_true_right, Bool.cond_true_left, Bool.cond_false_left, Bool.and_eq_true, Bool.or_eq_true, Bool.not_eq_true', bytesLim, maxLen, List.length_cons, List.length_nil, List.length_append, byteSize_lit] at *; omega)) (need_nil), ?_⟩
      refine ⟨need_cons (by first | assumption | omega | (intro; omega) | (simp only [decide_eq_true_eq, decide_eq_false_iff_not, Bool.cond_false_right, Bool.cond_true_right, Bool.cond_true_left, Bool.cond_false_left, Bool.and_eq_true, Bool.or_eq_true, Bool.not_eq_true', bytesLim, maxLen, List.length_cons, List.length_nil, List.length_append, byteSize_lit] at *; omega) | (intro; simp only [decide_eq_true_eq, decide_eq_false_iff_not, Bool.cond_false_right, Bool.cond_true_right, Bool.cond_true_left, Bool.cond_false_left, Bool.and_eq_true, Bool.or_eq_true, Bool.not_eq_true', bytesLim, maxLen, List.length_cons, List.length_nil, List.length_append, byteSize_lit] at *; omega)) (need_nil), ?_⟩
      have hF : r12_UniqLF (a0.drop i) v2 = r12_UniqLF (a0.drop (i + 1)) (v2 ++ [(a0.getD i default)]) := by rw [hd]; first | exact (cond_t h1 rfl) | simp only [r12_UniqLF, h0, h1, cond_true, cond_false]
      refine ⟨⟨((i + 1), (v2 ++ [(a0.getD i default)])), by (first | dsimp only | skip); constructor <;> (try simp only [List.length_append, List.length_cons, List.length_nil]) <;> omega⟩, by show a0.length - (i + 1) < a0.length - i; omega, ?_, ?_⟩
      · show _ = r12_UniqLS a0 (i + 1) (v2 ++ [(a0.getD i default)])
        unfold r12_UniqLS
        simp only [hw]
      · show (r12_UniqLT a0 (i + 1) (v2 ++ [(a0.getD i default)])).All Q
        unfold r12_UniqLT at hT ⊢
        rw [hF] at hT
        exact hT
    · have hF : r12_UniqLF (a0.drop i) v2 = r12_UniqLF (a0.drop (i + 1)) v2 := by rw [hd]; first | exact (cond_f h1 rfl) | simp only [r12_UniqLF, h0, h1, cond_true, cond_false]
      refine ⟨⟨((i + 1), v2), by (first | dsimp only | skip); constructor <;> (try simp only [List.length_append, List.length_cons, List.length_nil]) <;> omega⟩, by show a0.length - (i + 1) < a0.length - i; omega, ?_, ?_⟩
      · show _ = r12_UniqLS a0 (i + 1) v2
        unfold r12_UniqLS
        simp only [hw]
      · show (r12_UniqLT a0 (i + 1) v2).All Q
        unfold r12_UniqLT at hT ⊢
        rw [hF] at hT
        exact hT
  · have hge : ¬ i < a0.length := by simpa using h0
    have hd : a0.drop i = [] := List.drop_eq_nil_of_le (by omega)
    have hF : r12_UniqLF (a0.drop i) v2 = v2 := by rw [hd]; first | exact rfl | simp only [r12_UniqLF, h0, cond_true, cond_false]
    unfold r12_UniqLT at hT
    rw [hF] at hT
    exact hT
def r12_UniqF (a0 : List XObj) : List XObj :=
  r12_UniqLF a0 []
def r12_UniqR (a0 : List XObj) : RT :=
  (.leaf .ret ⟨slots 38 [(2, .vec 0)], [.vec true ⟨.obj, r12_UniqLF a0 []⟩]⟩ [])
theorem r12_UniqF_tr (a0 : List XObj) (hp0 : a0.length ≤ 64) : Tr Try.prog 0 (bodyOf Try.f30) (fnBegins Try.f30 [.coll ⟨.obj, a0⟩] []) (fnEnds Try.prog Try.f30 (.vec 0) [.vec true ⟨.obj, r12_UniqF a0⟩]) := by
  refine Tr_tree (kok _ _ _ _ _ _) (E := E_r12_Uniq) (L := (loopsOf [(0, r12_UniqLS a0 0 [], [1], r12_UniqLT a0 0 [])])) 60 9999 (LoopsOk.one (g := loopAt Try.f30 0) (b := 0) (by kernel_rfl) (by kernel_rfl) (by kernel_rfl) (by kernel_rfl) (fun Q h => r12_UniqL_loop a0 hp0 (by first | assumption | omega | (simp only [List.length_cons, List.length_nil, List.length_append]; omega)) ⟨(0, []), ⟨Nat.zero_le _, Nat.le_refl _⟩⟩ Q h)) (r12_UniqR a0) (by kernel_rfl) (by kernel_rfl) (by kernel_rfl) ?_
  unfold r12_UniqR
  exact ⟨trivial, .inl (by kernel_rfl), by kernel_rfl⟩
noncomputable def r12_Uniq_fact : Fact Try.prog := factOf 30 Try.f30 (by kernel_rfl) rfl (by kernel_rfl) [.c (.coll .obj)] [] false (fun t u => .vec 0) (fun t u => [.vec true ⟨.obj, r12_UniqF t.1⟩]) (fun t u => [t.1.length ≤ 64])
  (nofun) (fun t u => by kernel_rfl) (fun t u => by kernel_rfl) (fun t u h => r12_UniqF_tr t.1 (h _ List.mem_cons_self))
noncomputable def E_r12_Get_2 : Env := envOf (P := Try.prog) [] [] [] ckf
def r12_Get_2LF (a1 : Int) (a2 : ByteArray) : List XObj → Bool × XObj
  | [] => (false, default)
  | o :: r => cond (cond ((o.kind) == a1) (decide ((o.name) = a2)) false)
    (true, o)
    (r12_Get_2LF a1 a2 r)
def r12_Get_2LS (a0 : List XObj) (a1 : Int) (a2 : ByteArray) (i : Nat) : St :=
  ⟨slots 36 [(0, .coll ⟨.obj, a0⟩), (1, .int .u8 a1), (2, .str a2), (6, .ptr 0 0), (8, .int .i64 (i : Int))], [.cells 37 [.int .u8 0, .str (⟨#[]⟩ : ByteArray), .int .u64 0, .int .u64 0, .bool false, .bool false, .str (⟨#[]⟩ : ByteArray), .int .i64 0, .int .i64 0, .int .u8 0, .bool false, .bool false, .str (⟨#[]⟩ : ByteArray), .str (⟨#[]⟩ : ByteArray), .str (⟨#[]⟩ : ByteArray), .str (⟨#[]⟩ : ByteArray), .str (⟨#[]⟩ : ByteArray), .int .u8 0, .int .u64 0, .int .u64 0]]⟩
def r12_Get_2LR (a0 : List XObj) (a1 : Int) (a2 : ByteArray) (i : Nat) : RT :=
  (.ask (decide ((i : Int) < (a0.length : Int)))
    (.need [0 ≤ (i : Int) ∧ (i : Int) < (a0.length : Int)]
      (.need [((((a0.getD i default).kind) == a1) = true) → (0 ≤ (i : Int) ∧ (i : Int) < (a0.length : Int))]
        (.ask (cond (((a0.getD i default).kind) == a1) (decide (((a0.getD i default).name) = a2)) false)
          (.need [0 ≤ (i : Int) ∧ (i : Int) < (a0.length : Int)]
            (.leaf .ret ⟨slots 36 [(6, .ptr 0 0), (7, .bool true)], [.cells 37 (oc (a0.getD i default))]⟩ []))
          (.leaf .normal ⟨slots 36 [(0, .coll ⟨.obj, a0⟩), (1, .int .u8 a1), (2, .str a2), (6, .ptr 0 0), (8, .int .i64 (IntKind.i64.wrap ((i : Int) + (1 : Int))))], [.cells 37 [.int .u8 0, .str (⟨#[]⟩ : ByteArray), .int .u64 0, .int .u64 0, .bool false, .bool false, .str (⟨#[]⟩ : ByteArray), .int .i64 0, .int .i64 0, .int .u8 0, .bool false, .bool false, .str (⟨#[]⟩ : ByteArray), .str (⟨#[]⟩ : ByteArray), .str (⟨#[]⟩ : ByteArray), .str (⟨#[]⟩ : ByteArray), .str (⟨#[]⟩ : ByteArray), .int .u8 0, .int .u64 0, .int .u64 0]]⟩ []))))
    (.leaf (.exit 0) ⟨slots 36 [(6, .ptr 0 0)], [.cells 37 [.int .u8 0, .str (⟨#[]⟩ : ByteArray), .int .u64 0, .int .u64 0, .bool false, .bool false, .str (⟨#[]⟩ : ByteArray), .int .i64 0, .int .i64 0, .int .u8 0, .bool false, .bool false, .str (⟨#[]⟩ : ByteArray), .str (⟨#[]⟩ : ByteArray), .str (⟨#[]⟩ : ByteArray), .str (⟨#[]⟩ : ByteArray), .str (⟨#[]⟩ : ByteArray), .int .u8 0, .int .u64 0, .int .u64 0]]⟩ []))
def r12_Get_2LT (a0 : List XObj) (a1 : Int) (a2 : ByteArray) (i : Nat) : Tree :=
  .ask ((r12_Get_2LF a1 a2 (a0.drop i)).1) (.leaf .ret ⟨slots 36 [(6, .ptr 0 0), (7, .bool true)], [.cells 37 (oc ((r12_Get_2LF a1 a2 (a0.drop i)).2))]⟩) (.leaf (.exit 0) ⟨slots 36 [(6, .ptr 0 0)], [.cells 37 [.int .u8 0, .str (⟨#[]⟩ : ByteArray), .int .u64 0, .int .u64 0, .bool false, .bool false, .str (⟨#[]⟩ : ByteArray), .int .i64 0, .int .i64 0, .int .u8 0, .bool false, .bool false, .str (⟨#[]⟩ : ByteArray), .str (⟨#[]⟩ : ByteArray), .str (⟨#[]⟩ : ByteArray), .str (⟨#[]⟩ : ByteArray), .str (⟨#[]⟩ : ByteArray), .int .u8 0, .int .u64 0, .int .u64 0]]⟩)
theorem r12_Get_2L_loop (a0 : List XObj) (a1 : Int) (a2 : ByteArray) (hp0 : a0.length < 4611686018427387904) (hlen : a0.length < 4611686018427387904) (z : { z : Nat // z ≤ a0.length }) (Q : Exit → St → Prop) (h : (r12_Get_2LT a0 a1 a2 z.1).All Q) : Tr Try.prog 0 (.loop (loopAt Try.f31 0)) (r12_Get_2LS a0 a1 a2 z.1) Q := by
  refine Tr_loopT (kok _ _ _ _ _ _) (E := E_r12_Get_2) (ι := { z : Nat // z ≤ a0.length }) 60 0 (fun _ => noLoops) (fun z => r12_Get_2LS a0 a1 a2 z.1) (fun z => r12_Get_2LT a0 a1 a2 z.1) (fun z => r12_Get_2LR a0 a1 a2 z.1) (fun z => a0.length - z.1) (fun _ => LoopsOk.none) (fun z => by obtain ⟨i, hi⟩ := z; kernel_rfl) (fun z => by obtain ⟨i, hi⟩ := z; kernel_rfl) (fun z => by obtain ⟨i, hi⟩ := z; kernel_rfl) ?_ z Q h
  rintro ⟨i, hi⟩ Q hT
  replace hT : (r12_Get_2LT a0 a1 a2 i).All Q := hT
  replace hi : i ≤ a0.length := hi
  show (r12_Get_2LR a0 a1 a2 i).All _
  unfold r12_Get_2LR
  refine ⟨fun h0 => ?_, fun h0 => ?_⟩
  · have hlt : i < a0.length := by simpa using h0
    have hd := drop_getD hlt
    have hw := wrap_succ (i := i) (by omega)
    refine ⟨need_cons (by first | assumption | omega | (intro; omega) | (simp only [decide_eq_true_eq, decide_eq_false_iff_not, Bool.cond_false_right, Bool.cond_true_right, Bool.cond_true_left, Bool.cond_false_left, Bool.and_eq_true, Bool.or_eq_true, Bool.not_eq_true', bytesLim, maxLen, List.length_cons, List.length_nil, List.length_append, byteSize_lit] at *; omega) | (intro; simp only [decide_eq_true_eq, decide_eq_false_iff_not, Bool.cond_false_right, Bool.cond_true_right, Bool.cond_true_left, Bool.cond_false_left, Bool.and_eq_true, Bool.or_eq_true, Bool.not_eq_true', bytesLim, maxLen, List.length_cons, List.length_nil, List.length_append, byteSize_lit] at *; omega)) (need_nil), ?_⟩
    refine ⟨need_cons (by first | assumption | omega | (intro; omega) | (simp only [decide_eq_true_eq, decide_eq_false_iff_not, Bool.cond_false_right, Bool.cond_true_right, Bool.cond_true_left, Bool.cond_false_left, Bool.and_eq_true, Bool.or_eq_true, Bool.not_eq_true', bytesLim, maxLen, List.length_cons, List.length_nil, List.length_append, byteSize_lit] at *; omega) | (intro; simp only [decide_eq_true_eq, decide_eq_false_iff_not, Bool.cond_false_right, Bool.cond_true_right, Bool.cond_true_left, Bool.cond_false_left, Bool.and_eq_true, Bool.or_eq_true, Bool.not_eq_true', bytesLim, maxLen, List.length_cons, List.length_nil, List.length_append, byteSize_lit] at *; omega)) (need_nil), ?_⟩
    refine ⟨fun h1 => ?_, fun h1 => ?_⟩
    · refine ⟨need_cons (by first | assumption | omega | (intro; omega) | (simp only [decide_eq_true_eq, decide_eq_false_iff_not, Bool.cond_false_right, Bool.cond_true_right, Bool.cond_true_left, Bool.cond_false_left, Bool.and_eq_true, Bool.or_eq_true, Bool.not_eq_true', bytesLim, maxLen, List.length_cons, List.length_nil, List.length_append, byteSize_lit] at *; omega) | (intro; simp only [decide_eq_true_eq, decide_eq_false_iff_not, Bool.cond_false_right, Bool.cond_true_right, Bool.cond_true_left, Bool.cond_false_left, Bool.and_eq_true, Bool.or_eq_true, Bool.not_eq_true', bytesLim, maxLen, List.length_cons, List.length_nil, List.length_append, byteSize_lit] at *; omega)) (need_nil), ?_⟩
      have hF : r12_Get_2LF a1 a2 (a0.drop i) = (true, (a0.getD i default)) := by rw [hd]; first | exact (cond_t h1 rfl) | simp only [r12_Get_2LF, h0, h1, cond_true, cond_false]
      unfold r12_Get_2LT at hT
      rw [hF] at hT
      exact hT.1 rfl
    · have hF : r12_Get_2LF a1 a2 (a0.drop i) = r12_Get_2LF a1 a2 (a0.drop (i + 1)) := by rw [hd]; first | exact (cond_f h1 rfl) | simp only [r12_Get_2LF, h0, h1, cond_true, cond_false]
      refine ⟨⟨(i + 1), by show (i + 1) ≤ a0.length; omega⟩, by show a0.length - (i + 1) < a0.length - i; omega, ?_, ?_⟩
      · show _ = r12_Get_2LS a0 a1 a2 (i + 1)
        unfold r12_Get_2LS
        simp only [hw]
      · show (r12_Get_2LT a0 a1 a2 (i + 1)).All Q
        unfold r12_Get_2LT at hT ⊢
        rw [hF] at hT
        exact hT
  · have hge : ¬ i < a0.length := by simpa using h0
    have hd : a0.drop i = [] := List.drop_eq_nil_of_le (by omega)
    have hF : r12_Get_2LF a1 a2 (a0.drop i) = (false, default) := by rw [hd]; first | exact rfl | simp only [r12_Get_2LF, h0, cond_true, cond_false]
    unfold r12_Get_2LT at hT
    rw [hF] at hT
    exact hT.2 rfl
def r12_Get_2F (a0 : List XObj) (a1 : Int) (a2 : ByteArray) : XObj × Bool :=
  cond ((r12_Get_2LF a1 a2 a0).1)
    (((r12_Get_2LF a1 a2 a0).2), true)
    ((default : XObj), false)
def r12_Get_2R (a0 : List XObj) (a1 : Int) (a2 : ByteArray) : RT :=
  (.ask ((r12_Get_2LF a1 a2 a0).1)
    (.leaf .ret ⟨slots 36 [(6, .ptr 0 0), (7, .bool true)], [.cells 37 (oc ((r12_Get_2LF a1 a2 a0).2))]⟩ [])
    (.leaf .ret ⟨slots 36 [(6, .ptr 0 0), (7, .bool false)], [.cells 37 [.int .u8 0, .str (⟨#[]⟩ : ByteArray), .int .u64 0, .int .u64 0, .bool false, .bool false, .str (⟨#[]⟩ : ByteArray), .int .i64 0, .int .i64 0, .int .u8 0, .bool false, .bool false, .str (⟨#[]⟩ : ByteArray), .str (⟨#[]⟩ : ByteArray), .str (⟨#[]⟩ : ByteArray), .str (⟨#[]⟩ : ByteArray), .str (⟨#[]⟩ : ByteArray), .int .u8 0, .int .u64 0, .int .u64 0]]⟩ []))
theorem r12_Get_2F_tr (a0 : List XObj) (a1 : Int) (a2 : ByteArray) (hp0 : a0.length < 4611686018427387904) : Tr Try.prog 0 (bodyOf Try.f31) (fnBegins Try.f31 [.coll ⟨.obj, a0⟩, .int .u8 a1, .str a2] []) (fnEnds Try.prog Try.f31 (.tup [.agg (oc ((r12_Get_2F a0 a1 a2).1)), .bool ((r12_Get_2F a0 a1 a2).2)]) []) := by
  refine Tr_tree (kok _ _ _ _ _ _) (E := E_r12_Get_2) (L := (loopsOf [(0, r12_Get_2LS a0 a1 a2 0, [], r12_Get_2LT a0 a1 a2 0)])) 60 9999 (LoopsOk.one (g := loopAt Try.f31 0) (b := 0) (by kernel_rfl) (by kernel_rfl) (by kernel_rfl) (by kernel_rfl) (fun Q h => r12_Get_2L_loop a0 a1 a2 hp0 (by first | assumption | omega | (simp only [List.length_cons, List.length_nil, List.length_append]; omega)) ⟨0, by first | exact Nat.zero_le _ | (show 0 ≤ a0.length; omega) | (show 0 ≤ a0.length; exact ⟨Nat.zero_le _, by assumption⟩) | (show 0 ≤ a0.length; simp)⟩ Q h)) (r12_Get_2R a0 a1 a2) (by kernel_rfl) (by kernel_rfl) (by kernel_rfl) ?_
  unfold r12_Get_2R
  refine ⟨fun h0 => ?_, fun h0 => ?_⟩
  · have hF : r12_Get_2F a0 a1 a2 = (((r12_Get_2LF a1 a2 a0).2), true) := by first | exact (cond_t h0 rfl) | simp only [r12_Get_2F, h0, cond_true, cond_false]
    exact ⟨trivial, .inl (by first | (rw [hF]; kernel_rfl) | kernel_rfl), by first | (rw [hF]; kernel_rfl) | kernel_rfl⟩
  · have hF : r12_Get_2F a0 a1 a2 = ((default : XObj), false) := by first | exact (cond_f h0 rfl) | simp only [r12_Get_2F, h0, cond_true, cond_false]
    exact ⟨trivial, .inl (by first | (rw [hF]; kernel_rfl) | kernel_rfl), by first | (rw [hF]; kernel_rfl) | kernel_rfl⟩
noncomputable def r12_Get_2_fact : Fact Try.prog := factOf 31 Try.f31 (by kernel_rfl) rfl (by kernel_rfl) [.c (.coll .obj), .c (.int .u8), .c (.str)] [] true (fun t u => .tup [.agg (oc ((r12_Get_2F t.1 t.2.1 t.2.2.1).1)), .bool ((r12_Get_2F t.1 t.2.1 t.2.2.1).2)]) (fun t u => []) (fun t u => [t.1.length < 4611686018427387904])
  (fun _ _ _ => rfl) (fun t u => by kernel_rfl) (fun t u => by kernel_rfl) (fun t u h => r12_Get_2F_tr t.1 t.2.1 t.2.2.1 (h _ List.mem_cons_self))
end Go.Proofs.Ytbcnehpndoghcaa
