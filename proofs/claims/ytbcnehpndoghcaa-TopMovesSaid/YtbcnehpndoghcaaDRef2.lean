/- Attach: where a volume is wanted, its attachments, as the document says. -/
import Derived.Test.YtbcnehpndoghcaaDRef
set_option linter.unusedVariables false
set_option linter.unusedSimpArgs false
set_option maxRecDepth 100000
namespace Go.Proofs.Ytbcnehpndoghcaa
open Go Go.Eng
noncomputable def E_r13_Attachments : Env := envOf (P := Try.prog) [r12_Uniq_fact] [] [] ckf
def r13_AttachmentsL1F (a0 : List XObj) (i : Nat) : List XObj → Bool → List XObj → Bool × List XObj
  | [], v1_2, v1_7 => (v1_2, v1_7)
  | o1 :: r, v1_2, v1_7 => cond (cond (!v1_2) (strLess (((r12_UniqF a0).getD i default).name) (o1.name)) false)
    (r13_AttachmentsL1F a0 i r true ((v1_7 ++ [((r12_UniqF a0).getD i default)]) ++ [o1]))
    (r13_AttachmentsL1F a0 i r v1_2 (v1_7 ++ [o1]))
def r13_AttachmentsL1S (a0 : List XObj) (a1 : ByteArray) (i : Nat) (v3 : List XObj) (v1_2 : Bool) (i1 : Nat) (v1_7 : List XObj) : St :=
  ⟨slots 70 [(1, .str a1), (5, .vec 0), (6, .vec 1), (7, .int .i64 (i : Int)), (8, .ptr 2 0), (9, .vec 3), (10, .bool v1_2), (11, .int .i64 (i1 : Int))], [.vec true ⟨.obj, r12_UniqF a0⟩, .vec true ⟨.obj, v3⟩, .cells 37 (oc ((r12_UniqF a0).getD i default)), .vec true ⟨.obj, v1_7⟩]⟩
def r13_AttachmentsL1R (a0 : List XObj) (a1 : ByteArray) (i : Nat) (v3 : List XObj) (v1_2 : Bool) (i1 : Nat) (v1_7 : List XObj) : RT :=
  (.ask (decide ((i1 : Int) < (v3.length : Int)))
    (.need [((!v1_2) = true) → (0 ≤ (i1 : Int) ∧ (i1 : Int) < (v3.length : Int))]
      (.ask (cond (!v1_2) (strLess (((r12_UniqF a0).getD i default).name) ((v3.getD i1 default).name)) false)
        (.need [(v1_7.length + [((r12_UniqF a0).getD i default)].length) * 192 ≤ bytesLim ∧ v1_7.length + [((r12_UniqF a0).getD i default)].length ≤ maxLen]
          (.need [0 ≤ (i1 : Int) ∧ (i1 : Int) < (v3.length : Int)]
            (.need [((v1_7 ++ [((r12_UniqF a0).getD i default)]).length + [(v3.getD i1 default)].length) * 192 ≤ bytesLim ∧ (v1_7 ++ [((r12_UniqF a0).getD i default)]).length + [(v3.getD i1 default)].length ≤ maxLen]
              (.leaf .normal ⟨slots 70 [(1, .str a1), (5, .vec 0), (6, .vec 1), (7, .int .i64 (i : Int)), (8, .ptr 2 0), (9, .vec 3), (10, .bool true), (11, .int .i64 (IntKind.i64.wrap ((i1 : Int) + (1 : Int))))], [.vec true ⟨.obj, r12_UniqF a0⟩, .vec true ⟨.obj, v3⟩, .cells 37 (oc ((r12_UniqF a0).getD i default)), .vec true ⟨.obj, ((v1_7 ++ [((r12_UniqF a0).getD i default)]) ++ [(v3.getD i1 default)])⟩]⟩ [0, 1, 2, 7]))))
        (.need [0 ≤ (i1 : Int) ∧ (i1 : Int) < (v3.length : Int)]
          (.need [(v1_7.length + [(v3.getD i1 default)].length) * 192 ≤ bytesLim ∧ v1_7.length + [(v3.getD i1 default)].length ≤ maxLen]
            (.leaf .normal ⟨slots 70 [(1, .str a1), (5, .vec 0), (6, .vec 1), (7, .int .i64 (i : Int)), (8, .ptr 2 0), (9, .vec 3), (10, .bool v1_2), (11, .int .i64 (IntKind.i64.wrap ((i1 : Int) + (1 : Int))))], [.vec true ⟨.obj, r12_UniqF a0⟩, .vec true ⟨.obj, v3⟩, .cells 37 (oc ((r12_UniqF a0).getD i default)), .vec true ⟨.obj, (v1_7 ++ [(v3.getD i1 default)])⟩]⟩ [0, 1, 2, 5])))))
    (.leaf (.exit 2) ⟨slots 70 [(1, .str a1), (5, .vec 0), (7, .int .i64 (i : Int)), (8, .ptr 1 0), (9, .vec 2), (10, .bool v1_2)], [.vec true ⟨.obj, r12_UniqF a0⟩, .cells 37 (oc ((r12_UniqF a0).getD i default)), .vec true ⟨.obj, v1_7⟩]⟩ [0, 2, 3]))
def r13_AttachmentsL1T (a0 : List XObj) (a1 : ByteArray) (i : Nat) (v3 : List XObj) (v1_2 : Bool) (i1 : Nat) (v1_7 : List XObj) : Tree :=
  .leaf (.exit 2) ⟨slots 70 [(1, .str a1), (5, .vec 0), (7, .int .i64 (i : Int)), (8, .ptr 1 0), (9, .vec 2), (10, .bool ((r13_AttachmentsL1F a0 i (v3.drop i1) v1_2 v1_7).1))], [.vec true ⟨.obj, r12_UniqF a0⟩, .cells 37 (oc ((r12_UniqF a0).getD i default)), .vec true ⟨.obj, (r13_AttachmentsL1F a0 i (v3.drop i1) v1_2 v1_7).2⟩]⟩
theorem r13_AttachmentsL1_loop (a0 : List XObj) (a1 : ByteArray) (i : Nat) (v3 : List XObj) (hp0 : a0.length ≤ 64) (hlen : v3.length < 4611686018427387904) (hn0 : v3.length ≤ 64) (z : { z : Bool × Nat × List XObj // z.2.1 ≤ v3.length ∧ z.2.2.length ≤ 2 * z.2.1 }) (Q : Exit → St → Prop) (h : (r13_AttachmentsL1T a0 a1 i v3 z.1.1 z.1.2.1 z.1.2.2).All Q) : Tr Try.prog 0 (.loop (loopSub (loopAt Try.f18 0) 0 0)) (r13_AttachmentsL1S a0 a1 i v3 z.1.1 z.1.2.1 z.1.2.2) Q := by
  refine Tr_loopT (kok _ _ _ _ _ _) (E := E_r13_Attachments) (ι := { z : Bool × Nat × List XObj // z.2.1 ≤ v3.length ∧ z.2.2.length ≤ 2 * z.2.1 }) 60 2 (fun _ => noLoops) (fun z => r13_AttachmentsL1S a0 a1 i v3 z.1.1 z.1.2.1 z.1.2.2) (fun z => r13_AttachmentsL1T a0 a1 i v3 z.1.1 z.1.2.1 z.1.2.2) (fun z => r13_AttachmentsL1R a0 a1 i v3 z.1.1 z.1.2.1 z.1.2.2) (fun z => v3.length - z.1.2.1) (fun _ => LoopsOk.none) (fun z => by obtain ⟨⟨v1_2, i1, v1_7⟩, hi⟩ := z; kernel_rfl) (fun z => by obtain ⟨⟨v1_2, i1, v1_7⟩, hi⟩ := z; kernel_rfl) (fun z => by obtain ⟨⟨v1_2, i1, v1_7⟩, hi⟩ := z; kernel_rfl) ?_ z Q h
  rintro ⟨⟨v1_2, i1, v1_7⟩, hi⟩ Q hT
  replace hT : (r13_AttachmentsL1T a0 a1 i v3 v1_2 i1 v1_7).All Q := hT
  replace hi : i1 ≤ v3.length ∧ v1_7.length ≤ 2 * i1 := hi
  show (r13_AttachmentsL1R a0 a1 i v3 v1_2 i1 v1_7).All _
  unfold r13_AttachmentsL1R
  refine ⟨fun h0 => ?_, fun h0 => ?_⟩
  · have hlt : i1 < v3.length := by simpa using h0
    have hd := drop_getD hlt
    have hw := wrap_succ (i := i1) (by omega)
    refine ⟨need_cons (by first | assumption | omega | (intro; omega) | (simp only [decide_eq_true_eq, decide_eq_false_iff_not, Bool.cond_false_right, Bool.cond_true_right, Bool.cond_true_left, Bool.cond_false_left, Bool.and_eq_true, Bool.or_eq_true, Bool.not_eq_true', bytesLim, maxLen, List.length_cons, List.length_nil, List.length_append, byteSize_lit] at *; omega) | (intro; simp only [decide_eq_true_eq, decide_eq_false_iff_not, Bool.cond_false_right, Bool.cond_true_right, Bool.cond_true_left, Bool.cond_false_left, Bool.and_eq_true, Bool.or_eq_true, Bool.not_eq_true', bytesLim, maxLen, List.length_cons, List.length_nil, List.length_append, byteSize_lit] at *; omega)) (need_nil), ?_⟩
    refine ⟨fun h1 => ?_, fun h1 => ?_⟩
    · refine ⟨need_cons (by unfold bytesLim maxLen; simp only [List.length_append, List.length_cons, List.length_nil]; omega) (need_nil), ?_⟩
      refine ⟨need_cons (by first | assumption | omega | (intro; omega) | (simp only [decide_eq_true_eq, decide_eq_false_iff_not, Bool.cond_false_right, Bool.cond_true_right, Bool.cond_true_left, Bool.cond_false_left, Bool.and_eq_true, Bool.or_eq_true, Bool.not_eq_true', bytesLim, maxLen, List.length_cons, List.length_nil, List.length_append, byteSize_lit] at *; omega) | (intro; simp only [decide_eq_true_eq, decide_eq_false_iff_not, Bool.cond_false_right, Bool.cond_true_right, Bool.cond_true_left, Bool.cond_false_left, Bool.and_eq_true, Bool.or_eq_true, Bool.not_eq_true', bytesLim, maxLen, List.length_cons, List.length_nil, List.length_append, byteSize_lit] at *; omega)) (need_nil), ?_⟩
      refine ⟨need_cons (by unfold bytesLim maxLen; simp only [List.length_append, List.length_cons, List.length_nil]; omega) (need_nil), ?_⟩
      have hF : r13_AttachmentsL1F a0 i (v3.drop i1) v1_2 v1_7 = r13_AttachmentsL1F a0 i (v3.drop (i1 + 1)) true ((v1_7 ++ [((r12_UniqF a0).getD i default)]) ++ [(v3.getD i1 default)]) := by rw [hd]; first | exact (cond_t h1 rfl) | simp only [r13_AttachmentsL1F, h0, h1, cond_true, cond_false]
      refine ⟨⟨(true, (i1 + 1), ((v1_7 ++ [((r12_UniqF a0).getD i default)]) ++ [(v3.getD i1 default)])), by (first | dsimp only | skip); constructor <;> (try simp only [List.length_append, List.length_cons, List.length_nil]) <;> omega⟩, by show v3.length - (i1 + 1) < v3.length - i1; omega, ?_, ?_⟩
      · show _ = r13_AttachmentsL1S a0 a1 i v3 true (i1 + 1) ((v1_7 ++ [((r12_UniqF a0).getD i default)]) ++ [(v3.getD i1 default)])
        unfold r13_AttachmentsL1S
        simp only [hw]
      · show (r13_AttachmentsL1T a0 a1 i v3 true (i1 + 1) ((v1_7 ++ [((r12_UniqF a0).getD i default)]) ++ [(v3.getD i1 default)])).All Q
        unfold r13_AttachmentsL1T at hT ⊢
        rw [hF] at hT
        exact hT
    · refine ⟨need_cons (by first | assumption | omega | (intro; omega) | (simp only [decide_eq_true_eq, decide_eq_false_iff_not, Bool.cond_false_right, Bool.cond_true_right, Bool.cond_true_left, Bool.cond_false_left, Bool.and_eq_true, Bool.or_eq_true, Bool.not_eq_true', bytesLim, maxLen, List.length_cons, List.length_nil, List.length_append, byteSize_lit] at *; omega) | (intro; simp only [decide_eq_true_eq, decide_eq_false_iff_not, Bool.cond_false_right, Bool.cond_true_right, Bool.cond_true_left, Bool.cond_false_left, Bool.and_eq_true, Bool.or_eq_true, Bool.not_eq_true', bytesLim, maxLen, List.length_cons, List.length_nil, List.length_append, byteSize_lit] at *; omega)) (need_nil), ?_⟩
      refine ⟨need_cons (by unfold bytesLim maxLen; simp only [List.length_append, List.length_cons, List.length_nil]; omega) (need_nil), ?_⟩
      have hF : r13_AttachmentsL1F a0 i (v3.drop i1) v1_2 v1_7 = r13_AttachmentsL1F a0 i (v3.drop (i1 + 1)) v1_2 (v1_7 ++ [(v3.getD i1 default)]) := by rw [hd]; first | exact (cond_f h1 rfl) | simp only [r13_AttachmentsL1F, h0, h1, cond_true, cond_false]
      refine ⟨⟨(v1_2, (i1 + 1), (v1_7 ++ [(v3.getD i1 default)])), by (first | dsimp only | skip); constructor <;> (try simp only [List.length_append, List.length_cons, List.length_nil]) <;> omega⟩, by show v3.length - (i1 + 1) < v3.length - i1; omega, ?_, ?_⟩
      · show _ = r13_AttachmentsL1S a0 a1 i v3 v1_2 (i1 + 1) (v1_7 ++ [(v3.getD i1 default)])
        unfold r13_AttachmentsL1S
        simp only [hw]
      · show (r13_AttachmentsL1T a0 a1 i v3 v1_2 (i1 + 1) (v1_7 ++ [(v3.getD i1 default)])).All Q
        unfold r13_AttachmentsL1T at hT ⊢
        rw [hF] at hT
        exact hT
  · have hge : ¬ i1 < v3.length := by simpa using h0
    have hd : v3.drop i1 = [] := List.drop_eq_nil_of_le (by omega)
    have hF : r13_AttachmentsL1F a0 i (v3.drop i1) v1_2 v1_7 = (v1_2, v1_7) := by rw [hd]; first | exact rfl | simp only [r13_AttachmentsL1F, h0, cond_true, cond_false]
    unfold r13_AttachmentsL1T at hT
    rw [hF] at hT
    exact hT
theorem r13_AttachmentsL1F_len (a0 : List XObj) (i : Nat) : ∀ (l : List XObj) (p : Bool) (v : List XObj), (r13_AttachmentsL1F a0 i l p v).2.length + (cond (r13_AttachmentsL1F a0 i l p v).1 0 1) ≤ v.length + l.length + (cond p 0 1)
  | [], p, v => by unfold r13_AttachmentsL1F; simp
  | o :: r, p, v => by
    unfold r13_AttachmentsL1F
    cases p <;> cases strLess (((r12_UniqF a0).getD i default).name) (o.name) <;> simp only [Bool.not_true, Bool.not_false, cond_true, cond_false]
    all_goals (first
      | (have := r13_AttachmentsL1F_len a0 i r true ((v ++ [((r12_UniqF a0).getD i default)]) ++ [o]); simp only [List.length_append, List.length_cons, List.length_nil, cond_true] at *; omega)
      | (have := r13_AttachmentsL1F_len a0 i r false (v ++ [o]); simp only [List.length_append, List.length_cons, List.length_nil, cond_false] at *; omega)
      | (have := r13_AttachmentsL1F_len a0 i r true (v ++ [o]); simp only [List.length_append, List.length_cons, List.length_nil, cond_true] at *; omega))
def r13_AttachmentsLF (a0 : List XObj) (a1 : ByteArray) : List XObj → Nat → List XObj → List XObj
  | [], i, v3 => v3
  | o :: r, i, v3 => cond (cond (!((o.kind) == (5 : Int))) true (!(decide ((o.volume) = a1))))
    (r13_AttachmentsLF a0 a1 r (i + 1) v3)
    (cond (!((r13_AttachmentsL1F a0 i v3 false []).1))
      (r13_AttachmentsLF a0 a1 r (i + 1) (((r13_AttachmentsL1F a0 i v3 false []).2) ++ [o]))
      (r13_AttachmentsLF a0 a1 r (i + 1) ((r13_AttachmentsL1F a0 i v3 false []).2)))
def r13_AttachmentsLS (a0 : List XObj) (a1 : ByteArray) (i : Nat) (v3 : List XObj) : St :=
  ⟨slots 70 [(1, .str a1), (5, .vec 0), (6, .vec 1), (7, .int .i64 (i : Int))], [.vec true ⟨.obj, r12_UniqF a0⟩, .vec true ⟨.obj, v3⟩]⟩
def r13_AttachmentsLR (a0 : List XObj) (a1 : ByteArray) (i : Nat) (v3 : List XObj) : RT :=
  (.ask (decide ((i : Int) < ((r12_UniqF a0).length : Int)))
    (.need [0 ≤ (i : Int) ∧ (i : Int) < ((r12_UniqF a0).length : Int)]
      (.ask (cond (!((((r12_UniqF a0).getD i default).kind) == (5 : Int))) true (!(decide ((((r12_UniqF a0).getD i default).volume) = a1))))
        (.leaf .normal ⟨slots 70 [(1, .str a1), (5, .vec 0), (6, .vec 1), (7, .int .i64 (IntKind.i64.wrap ((i : Int) + (1 : Int))))], [.vec true ⟨.obj, r12_UniqF a0⟩, .vec true ⟨.obj, v3⟩]⟩ [])
        (.need [v3.length ≤ 64, v3.length < 4611686018427387904]
          (.ask (!((r13_AttachmentsL1F a0 i v3 false []).1))
            (.need [(((r13_AttachmentsL1F a0 i v3 false []).2).length + [((r12_UniqF a0).getD i default)].length) * 192 ≤ bytesLim ∧ ((r13_AttachmentsL1F a0 i v3 false []).2).length + [((r12_UniqF a0).getD i default)].length ≤ maxLen]
              (.leaf .normal ⟨slots 70 [(1, .str a1), (5, .vec 0), (6, .vec 1), (7, .int .i64 (IntKind.i64.wrap ((i : Int) + (1 : Int))))], [.vec true ⟨.obj, r12_UniqF a0⟩, .vec true ⟨.obj, (((r13_AttachmentsL1F a0 i v3 false []).2) ++ [((r12_UniqF a0).getD i default)])⟩]⟩ [0, 4]))
            (.leaf .normal ⟨slots 70 [(1, .str a1), (5, .vec 0), (6, .vec 1), (7, .int .i64 (IntKind.i64.wrap ((i : Int) + (1 : Int))))], [.vec true ⟨.obj, r12_UniqF a0⟩, .vec true ⟨.obj, (r13_AttachmentsL1F a0 i v3 false []).2⟩]⟩ [0, 2])))))
    (.leaf (.exit 0) ⟨slots 70 [(6, .vec 0)], [.vec true ⟨.obj, v3⟩]⟩ [1]))
def r13_AttachmentsLT (a0 : List XObj) (a1 : ByteArray) (i : Nat) (v3 : List XObj) : Tree :=
  .leaf (.exit 0) ⟨slots 70 [(6, .vec 0)], [.vec true ⟨.obj, r13_AttachmentsLF a0 a1 ((r12_UniqF a0).drop i) i v3⟩]⟩
theorem r13_AttachmentsL_loop (a0 : List XObj) (a1 : ByteArray) (hp0 : a0.length ≤ 64) (hlen : (r12_UniqF a0).length < 4611686018427387904) (z : { z : Nat × List XObj // z.1 ≤ (r12_UniqF a0).length ∧ z.2.length ≤ z.1 }) (Q : Exit → St → Prop) (h : (r13_AttachmentsLT a0 a1 z.1.1 z.1.2).All Q) : Tr Try.prog 0 (.loop (loopAt Try.f18 0)) (r13_AttachmentsLS a0 a1 z.1.1 z.1.2) Q := by
  refine Tr_loopT (kok _ _ _ _ _ _) (E := E_r13_Attachments) (ι := { z : Nat × List XObj // z.1 ≤ (r12_UniqF a0).length ∧ z.2.length ≤ z.1 }) 60 0 (fun z => loopsOf [(2, r13_AttachmentsL1S a0 a1 z.1.1 z.1.2 false 0 [], [], .need [z.1.2.length ≤ 64, z.1.2.length < 4611686018427387904] (r13_AttachmentsL1T a0 a1 z.1.1 z.1.2 false 0 []))]) (fun z => r13_AttachmentsLS a0 a1 z.1.1 z.1.2) (fun z => r13_AttachmentsLT a0 a1 z.1.1 z.1.2) (fun z => r13_AttachmentsLR a0 a1 z.1.1 z.1.2) (fun z => (r12_UniqF a0).length - z.1.1) (fun z => by obtain ⟨⟨i, v3⟩, hi⟩ := z; exact LoopsOk.one (g := loopSub (loopAt Try.f18 0) 0 0) (b := 2) (by kernel_rfl) (by kernel_rfl) (by kernel_rfl) (by kernel_rfl) (fun Q h => r13_AttachmentsL1_loop a0 a1 i v3 hp0 (h.1 _ (List.mem_cons_of_mem _ List.mem_cons_self)) (h.1 _ List.mem_cons_self) ⟨(false, 0, []), ⟨Nat.zero_le _, Nat.zero_le _⟩⟩ Q h.2)) (fun z => by obtain ⟨⟨i, v3⟩, hi⟩ := z; kernel_rfl) (fun z => by obtain ⟨⟨i, v3⟩, hi⟩ := z; kernel_rfl) (fun z => by obtain ⟨⟨i, v3⟩, hi⟩ := z; kernel_rfl) ?_ z Q h
  rintro ⟨⟨i, v3⟩, hi⟩ Q hT
  replace hT : (r13_AttachmentsLT a0 a1 i v3).All Q := hT
  replace hi : i ≤ (r12_UniqF a0).length ∧ v3.length ≤ i := hi
  show (r13_AttachmentsLR a0 a1 i v3).All _
  unfold r13_AttachmentsLR
  refine ⟨fun h0 => ?_, fun h0 => ?_⟩
  · have hlt : i < (r12_UniqF a0).length := by simpa using h0
    have hd := drop_getD hlt
    have hw := wrap_succ (i := i) (by omega)
    refine ⟨need_cons (by first | assumption | omega | (intro; omega) | (simp only [decide_eq_true_eq, decide_eq_false_iff_not, Bool.cond_false_right, Bool.cond_true_right, Bool.cond_true_left, Bool.cond_false_left, Bool.and_eq_true, Bool.or_eq_true, Bool.not_eq_true', bytesLim, maxLen, List.length_cons, List.length_nil, List.length_append, byteSize_lit] at *; omega) | (intro; simp only [decide_eq_true_eq, decide_eq_false_iff_not, Bool.cond_false_right, Bool.cond_true_right, Bool.cond_true_left, Bool.cond_false_left, Bool.and_eq_true, Bool.or_eq_true, Bool.not_eq_true', bytesLim, maxLen, List.length_cons, List.length_nil, List.length_append, byteSize_lit] at *; omega)) (need_nil), ?_⟩
    refine ⟨fun h1 => ?_, fun h1 => ?_⟩
    · have hF : r13_AttachmentsLF a0 a1 ((r12_UniqF a0).drop i) i v3 = r13_AttachmentsLF a0 a1 ((r12_UniqF a0).drop (i + 1)) (i + 1) v3 := by rw [hd]; first | exact (cond_t h1 rfl) | simp only [r13_AttachmentsLF, h0, h1, cond_true, cond_false]
      refine ⟨⟨((i + 1), v3), by (first | dsimp only | skip); refine ⟨by omega, ?_⟩; first | omega | (have h9 := r13_AttachmentsL1F_len a0 i v3 false []; simp only [List.length_nil, cond_false] at h9; (try simp only [List.length_append, List.length_cons, List.length_nil]); (first | omega | (have hq := h2; simp only [Bool.not_eq_true', Bool.not_eq_false'] at hq; rw [hq] at h9; simp only [cond_true, cond_false] at h9; omega)))⟩, by show (r12_UniqF a0).length - (i + 1) < (r12_UniqF a0).length - i; omega, ?_, ?_⟩
      · show _ = r13_AttachmentsLS a0 a1 (i + 1) v3
        unfold r13_AttachmentsLS
        simp only [hw]
      · show (r13_AttachmentsLT a0 a1 (i + 1) v3).All Q
        unfold r13_AttachmentsLT at hT ⊢
        rw [hF] at hT
        exact hT
    · refine ⟨need_cons (by have h9 := r12_Uniq_le a0; omega) (need_cons (by have h9 := r12_Uniq_le a0; omega) (need_nil)), ?_⟩
      refine ⟨fun h2 => ?_, fun h2 => ?_⟩
      · refine ⟨need_cons (by have h9 := r13_AttachmentsL1F_len a0 i v3 false []; have h8 := r12_Uniq_le a0; simp only [List.length_nil, cond_false] at h9; unfold bytesLim maxLen; (try simp only [List.length_append, List.length_cons, List.length_nil]); omega) (need_nil), ?_⟩
        have hF : r13_AttachmentsLF a0 a1 ((r12_UniqF a0).drop i) i v3 = r13_AttachmentsLF a0 a1 ((r12_UniqF a0).drop (i + 1)) (i + 1) (((r13_AttachmentsL1F a0 i v3 false []).2) ++ [((r12_UniqF a0).getD i default)]) := by rw [hd]; first | exact (cond_f h1 (cond_t h2 rfl)) | simp only [r13_AttachmentsLF, h0, h1, h2, cond_true, cond_false]
        refine ⟨⟨((i + 1), (((r13_AttachmentsL1F a0 i v3 false []).2) ++ [((r12_UniqF a0).getD i default)])), by (first | dsimp only | skip); refine ⟨by omega, ?_⟩; first | omega | (have h9 := r13_AttachmentsL1F_len a0 i v3 false []; simp only [List.length_nil, cond_false] at h9; (try simp only [List.length_append, List.length_cons, List.length_nil]); (first | omega | (have hq := h2; simp only [Bool.not_eq_true', Bool.not_eq_false'] at hq; rw [hq] at h9; simp only [cond_true, cond_false] at h9; omega)))⟩, by show (r12_UniqF a0).length - (i + 1) < (r12_UniqF a0).length - i; omega, ?_, ?_⟩
        · show _ = r13_AttachmentsLS a0 a1 (i + 1) (((r13_AttachmentsL1F a0 i v3 false []).2) ++ [((r12_UniqF a0).getD i default)])
          unfold r13_AttachmentsLS
          simp only [hw]
        · show (r13_AttachmentsLT a0 a1 (i + 1) (((r13_AttachmentsL1F a0 i v3 false []).2) ++ [((r12_UniqF a0).getD i default)])).All Q
          unfold r13_AttachmentsLT at hT ⊢
          rw [hF] at hT
          exact hT
      · have hF : r13_AttachmentsLF a0 a1 ((r12_UniqF a0).drop i) i v3 = r13_AttachmentsLF a0 a1 ((r12_UniqF a0).drop (i + 1)) (i + 1) ((r13_AttachmentsL1F a0 i v3 false []).2) := by rw [hd]; first | exact (cond_f h1 (cond_f h2 rfl)) | simp only [r13_AttachmentsLF, h0, h1, h2, cond_true, cond_false]
        refine ⟨⟨((i + 1), (r13_AttachmentsL1F a0 i v3 false []).2), by (first | dsimp only | skip); refine ⟨by omega, ?_⟩; first | omega | (have h9 := r13_AttachmentsL1F_len a0 i v3 false []; simp only [List.length_nil, cond_false] at h9; (try simp only [List.length_append, List.length_cons, List.length_nil]); (first | omega | (have hq := h2; simp only [Bool.not_eq_true', Bool.not_eq_false'] at hq; rw [hq] at h9; simp only [cond_true, cond_false] at h9; omega)))⟩, by show (r12_UniqF a0).length - (i + 1) < (r12_UniqF a0).length - i; omega, ?_, ?_⟩
        · show _ = r13_AttachmentsLS a0 a1 (i + 1) ((r13_AttachmentsL1F a0 i v3 false []).2)
          unfold r13_AttachmentsLS
          simp only [hw]
        · show (r13_AttachmentsLT a0 a1 (i + 1) ((r13_AttachmentsL1F a0 i v3 false []).2)).All Q
          unfold r13_AttachmentsLT at hT ⊢
          rw [hF] at hT
          exact hT
  · have hge : ¬ i < (r12_UniqF a0).length := by simpa using h0
    have hd : (r12_UniqF a0).drop i = [] := List.drop_eq_nil_of_le (by omega)
    have hF : r13_AttachmentsLF a0 a1 ((r12_UniqF a0).drop i) i v3 = v3 := by rw [hd]; first | exact rfl | simp only [r13_AttachmentsLF, h0, cond_true, cond_false]
    unfold r13_AttachmentsLT at hT
    rw [hF] at hT
    exact hT
def r13_AttachmentsF (a0 : List XObj) (a1 : ByteArray) : List XObj :=
  r13_AttachmentsLF a0 a1 (r12_UniqF a0) 0 []
def r13_AttachmentsR (a0 : List XObj) (a1 : ByteArray) : RT :=
  (.need [a0.length ≤ 64]
    (.leaf .ret ⟨slots 70 [(4, .vec 0)], [.vec true ⟨.obj, r13_AttachmentsLF a0 a1 (r12_UniqF a0) 0 []⟩]⟩ []))
theorem r13_AttachmentsF_tr (a0 : List XObj) (a1 : ByteArray) (hp0 : a0.length ≤ 64) : Tr Try.prog 0 (bodyOf Try.f18) (fnBegins Try.f18 [.coll ⟨.obj, a0⟩, .str a1] []) (fnEnds Try.prog Try.f18 (.vec 0) [.vec true ⟨.obj, r13_AttachmentsF a0 a1⟩]) := by
  refine Tr_tree (kok _ _ _ _ _ _) (E := E_r13_Attachments) (L := (loopsOf [(0, r13_AttachmentsLS a0 a1 0 [], [1, 2], r13_AttachmentsLT a0 a1 0 [])])) 60 9999 (LoopsOk.one (g := loopAt Try.f18 0) (b := 0) (by kernel_rfl) (by kernel_rfl) (by kernel_rfl) (by kernel_rfl) (fun Q h => r13_AttachmentsL_loop a0 a1 hp0 (by first | assumption | omega | exact r12_Uniq_len _ (by assumption) | exact r12_Uniq_short _ (by assumption)) ⟨(0, []), ⟨Nat.zero_le _, Nat.le_refl _⟩⟩ Q h)) (r13_AttachmentsR a0 a1) (by kernel_rfl) (by kernel_rfl) (by kernel_rfl) ?_
  unfold r13_AttachmentsR
  refine ⟨need_cons (by first | assumption | omega | exact r12_Uniq_len _ (by assumption) | exact r12_Uniq_short _ (by assumption)) (need_nil), ?_⟩
  exact ⟨trivial, .inl (by kernel_rfl), by kernel_rfl⟩
noncomputable def r13_Attachments_fact : Fact Try.prog := factOf 18 Try.f18 (by kernel_rfl) rfl (by kernel_rfl) [.c (.coll .obj), .c (.str)] [] false (fun t u => .vec 0) (fun t u => [.vec true ⟨.obj, r13_AttachmentsF t.1 t.2.1⟩]) (fun t u => [t.1.length ≤ 64])
  (nofun) (fun t u => by kernel_rfl) (fun t u => by kernel_rfl) (fun t u h => r13_AttachmentsF_tr t.1 t.2.1 (h _ List.mem_cons_self))
end Go.Proofs.Ytbcnehpndoghcaa
