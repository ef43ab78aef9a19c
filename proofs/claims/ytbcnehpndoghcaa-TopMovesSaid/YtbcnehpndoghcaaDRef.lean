/- Attach. -/
import Derived.Test.YtbcnehpndoghcaaDH1
set_option linter.unusedVariables false
set_option linter.unusedSimpArgs false
set_option maxRecDepth 100000
namespace Go.Proofs.Ytbcnehpndoghcaa
open Go Go.Eng
noncomputable def E_r13_insert : Env := envOf (P := Try.prog) [] [] [] ckf
def r13_insertLF (a1 : ByteArray) : List ByteArray → Bool → List ByteArray → Bool × List ByteArray
  | [], v2, v4 => (v2, v4)
  | o :: r, v2, v4 => cond (cond (!v2) (strLess a1 o || decide (a1 = o)) false)
    (cond (!(decide (o = a1)))
      (r13_insertLF a1 r true ((v4 ++ [a1]) ++ [o]))
      (r13_insertLF a1 r true (v4 ++ [a1])))
    (cond (!(decide (o = a1)))
      (r13_insertLF a1 r v2 (v4 ++ [o]))
      (r13_insertLF a1 r v2 v4))
def r13_insertLS (a0 : List ByteArray) (a1 : ByteArray) (v2 : Bool) (i : Nat) (v4 : List ByteArray) : St :=
  ⟨slots 48 [(0, .coll ⟨.str, a0⟩), (1, .str a1), (5, .vec 0), (6, .bool v2), (7, .int .i64 (i : Int))], [.vec true ⟨.str, v4⟩]⟩
def r13_insertLR (a0 : List ByteArray) (a1 : ByteArray) (v2 : Bool) (i : Nat) (v4 : List ByteArray) : RT :=
  (.ask (decide ((i : Int) < (a0.length : Int)))
    (.need [((!v2) = true) → (0 ≤ (i : Int) ∧ (i : Int) < (a0.length : Int))]
      (.ask (cond (!v2) (strLess a1 (a0.getD i default) || decide (a1 = (a0.getD i default))) false)
        (.need [(v4.length + [a1].length) * 16 ≤ bytesLim ∧ v4.length + [a1].length ≤ maxLen]
          (.need [0 ≤ (i : Int) ∧ (i : Int) < (a0.length : Int)]
            (.ask (!(decide ((a0.getD i default) = a1)))
              (.need [0 ≤ (i : Int) ∧ (i : Int) < (a0.length : Int)]
                (.need [((v4 ++ [a1]).length + [(a0.getD i default)].length) * 16 ≤ bytesLim ∧ (v4 ++ [a1]).length + [(a0.getD i default)].length ≤ maxLen]
                  (.leaf .normal ⟨slots 48 [(0, .coll ⟨.str, a0⟩), (1, .str a1), (5, .vec 0), (6, .bool true), (7, .int .i64 (IntKind.i64.wrap ((i : Int) + (1 : Int))))], [.vec true ⟨.str, ((v4 ++ [a1]) ++ [(a0.getD i default)])⟩]⟩ [4])))
              (.leaf .normal ⟨slots 48 [(0, .coll ⟨.str, a0⟩), (1, .str a1), (5, .vec 0), (6, .bool true), (7, .int .i64 (IntKind.i64.wrap ((i : Int) + (1 : Int))))], [.vec true ⟨.str, (v4 ++ [a1])⟩]⟩ [2]))))
        (.need [0 ≤ (i : Int) ∧ (i : Int) < (a0.length : Int)]
          (.ask (!(decide ((a0.getD i default) = a1)))
            (.need [0 ≤ (i : Int) ∧ (i : Int) < (a0.length : Int)]
              (.need [(v4.length + [(a0.getD i default)].length) * 16 ≤ bytesLim ∧ v4.length + [(a0.getD i default)].length ≤ maxLen]
                (.leaf .normal ⟨slots 48 [(0, .coll ⟨.str, a0⟩), (1, .str a1), (5, .vec 0), (6, .bool v2), (7, .int .i64 (IntKind.i64.wrap ((i : Int) + (1 : Int))))], [.vec true ⟨.str, (v4 ++ [(a0.getD i default)])⟩]⟩ [2])))
            (.leaf .normal ⟨slots 48 [(0, .coll ⟨.str, a0⟩), (1, .str a1), (5, .vec 0), (6, .bool v2), (7, .int .i64 (IntKind.i64.wrap ((i : Int) + (1 : Int))))], [.vec true ⟨.str, v4⟩]⟩ [])))))
    (.leaf (.exit 0) ⟨slots 48 [(1, .str a1), (5, .vec 0), (6, .bool v2)], [.vec true ⟨.str, v4⟩]⟩ []))
def r13_insertLT (a0 : List ByteArray) (a1 : ByteArray) (v2 : Bool) (i : Nat) (v4 : List ByteArray) : Tree :=
  .leaf (.exit 0) ⟨slots 48 [(1, .str a1), (5, .vec 0), (6, .bool ((r13_insertLF a1 (a0.drop i) v2 v4).1))], [.vec true ⟨.str, (r13_insertLF a1 (a0.drop i) v2 v4).2⟩]⟩
theorem r13_insertL_loop (a0 : List ByteArray) (a1 : ByteArray) (hp0 : a0.length ≤ 64) (hlen : a0.length < 4611686018427387904) (z : { z : Bool × Nat × List ByteArray // z.2.1 ≤ a0.length ∧ z.2.2.length ≤ 2 * z.2.1 }) (Q : Exit → St → Prop) (h : (r13_insertLT a0 a1 z.1.1 z.1.2.1 z.1.2.2).All Q) : Tr Try.prog 0 (.loop (loopAt Try.f32 0)) (r13_insertLS a0 a1 z.1.1 z.1.2.1 z.1.2.2) Q := by
  refine Tr_loopT (kok _ _ _ _ _ _) (E := E_r13_insert) (ι := { z : Bool × Nat × List ByteArray // z.2.1 ≤ a0.length ∧ z.2.2.length ≤ 2 * z.2.1 }) 60 0 (fun _ => noLoops) (fun z => r13_insertLS a0 a1 z.1.1 z.1.2.1 z.1.2.2) (fun z => r13_insertLT a0 a1 z.1.1 z.1.2.1 z.1.2.2) (fun z => r13_insertLR a0 a1 z.1.1 z.1.2.1 z.1.2.2) (fun z => a0.length - z.1.2.1) (fun _ => LoopsOk.none) (fun z => by obtain ⟨⟨v2, i, v4⟩, hi⟩ := z; kernel_rfl) (fun z => by obtain ⟨⟨v2, i, v4⟩, hi⟩ := z; kernel_rfl) (fun z => by obtain ⟨⟨v2, i, v4⟩, hi⟩ := z; kernel_rfl) ?_ z Q h
  rintro ⟨⟨v2, i, v4⟩, hi⟩ Q hT
  replace hT : (r13_insertLT a0 a1 v2 i v4).All Q := hT
  replace hi : i ≤ a0.length ∧ v4.length ≤ 2 * i := hi
  show (r13_insertLR a0 a1 v2 i v4).All _
  unfold r13_insertLR
  refine ⟨fun h0 => ?_, fun h0 => ?_⟩
  · have hlt : i < a0.length := by simpa using h0
    have hd := drop_getD hlt
    have hw := wrap_succ (i := i) (by omega)
    refine ⟨need_cons (by first | assumption | omega | (intro; omega) | (simp only [decide_eq_true_eq, decide_eq_false_iff_not, Bool.cond_false_right, Bool.cond_true_right, Bool.cond_true_left, Bool.cond_false_left, Bool.and_eq_true, Bool.or_eq_true, Bool.not_eq_true', bytesLim, maxLen, List.length_cons, List.length_nil, List.length_append, byteSize_lit] at *; omega) | (intro; simp only [decide_eq_true_eq, decide_eq_false_iff_not, Bool.cond_false_right, Bool.cond_true_right, Bool.cond_true_left, Bool.cond_false_left, Bool.and_eq_true, Bool.or_eq_true, Bool.not_eq_true', bytesLim, maxLen, List.length_cons, List.length_nil, List.length_append, byteSize_lit] at *; omega)) (need_nil), ?_⟩
    refine ⟨fun h1 => ?_, fun h1 => ?_⟩
    · refine ⟨need_cons (by unfold bytesLim maxLen; simp only [List.length_append, List.length_cons, List.length_nil]; omega) (need_nil), ?_⟩
      refine ⟨need_cons (by first | assumption | omega | (intro; omega) | (simp only [decide_eq_true_eq, decide_eq_false_iff_not, Bool.cond_false_right, Bool.cond_true_right, Bool.cond_true_left, Bool.cond_false_left, Bool.and_eq_true, Bool.or_eq_true, Bool.not_eq_true', bytesLim, maxLen, List.length_cons, List.length_nil, List.length_append, byteSize_lit] at *; omega) | (intro; simp only [decide_eq_true_eq, decide_eq_false_iff_not, Bool.cond_false_right, Bool.cond_true_right, Bool.cond_true_left, Bool.cond_false_left, Bool.and_eq_true, Bool.or_eq_true, Bool.not_eq_true', bytesLim, maxLen, List.length_cons, List.length_nil, List.length_append, byteSize_lit] at *; omega)) (need_nil), ?_⟩
      refine ⟨fun h2 => ?_, fun h2 => ?_⟩
      · refine ⟨need_cons (by first | assumption | omega | (intro; omega) | (simp only [decide_eq_true_eq, decide_eq_false_iff_not, Bool.cond_false_right, Bool.cond_true_right, Bool.cond_true_left, Bool.cond_false_left, Bool.and_eq_true, Bool.or_eq_true, Bool.not_eq_true', bytesLim, maxLen, List.length_cons, List.length_nil, List.length_append, byteSize_lit] at *; omega) | (intro; simp only [decide_eq_true_eq, decide_eq_false_iff_not, Bool.cond_false_right, Bool.cond_true_right, Bool.cond_true_left, Bool.cond_false_left, Bool.and_eq_true, Bool.or_eq_true, Bool.not_eq_true', bytesLim, maxLen, List.length_cons, List.length_nil, List.length_append, byteSize_lit] at *; omega)) (need_nil), ?_⟩
        refine ⟨need_cons (by unfold bytesLim maxLen; simp only [List.length_append, List.length_cons, List.length_nil]; omega) (need_nil), ?_⟩
        have hF : r13_insertLF a1 (a0.drop i) v2 v4 = r13_insertLF a1 (a0.drop (i + 1)) true ((v4 ++ [a1]) ++ [(a0.getD i default)]) := by rw [hd]; first | exact (cond_t h1 (cond_t h2 rfl)) | simp only [r13_insertLF, h0, h1, h2, cond_true, cond_false]
        refine ⟨⟨(true, (i + 1), ((v4 ++ [a1]) ++ [(a0.getD i default)])), by (first | dsimp only | skip); constructor <;> (try simp only [List.length_append, List.length_cons, List.length_nil]) <;> omega⟩, by show a0.length - (i + 1) < a0.length - i; omega, ?_, ?_⟩
        · show _ = r13_insertLS a0 a1 true (i + 1) ((v4 ++ [a1]) ++ [(a0.getD i default)])
          unfold r13_insertLS
          simp only [hw]
        · show (r13_insertLT a0 a1 true (i + 1) ((v4 ++ [a1]) ++ [(a0.getD i default)])).All Q
          unfold r13_insertLT at hT ⊢
          rw [hF] at hT
          exact hT
      · have hF : r13_insertLF a1 (a0.drop i) v2 v4 = r13_insertLF a1 (a0.drop (i + 1)) true (v4 ++ [a1]) := by rw [hd]; first | exact (cond_t h1 (cond_f h2 rfl)) | simp only [r13_insertLF, h0, h1, h2, cond_true, cond_false]
        refine ⟨⟨(true, (i + 1), (v4 ++ [a1])), by (first | dsimp only | skip); constructor <;> (try simp only [List.length_append, List.length_cons, List.length_nil]) <;> omega⟩, by show a0.length - (i + 1) < a0.length - i; omega, ?_, ?_⟩
        · show _ = r13_insertLS a0 a1 true (i + 1) (v4 ++ [a1])
          unfold r13_insertLS
          simp only [hw]
        · show (r13_insertLT a0 a1 true (i + 1) (v4 ++ [a1])).All Q
          unfold r13_insertLT at hT ⊢
          rw [hF] at hT
          exact hT
    · refine ⟨need_cons (by first | assumption | omega | (intro; omega) | (simp only [decide_eq_true_eq, decide_eq_false_iff_not, Bool.cond_false_right, Bool.cond_true_right, Bool.cond_true_left, Bool.cond_false_left, Bool.and_eq_true, Bool.or_eq_true, Bool.not_eq_true', bytesLim, maxLen, List.length_cons, List.length_nil, List.length_append, byteSize_lit] at *; omega) | (intro; simp only [decide_eq_true_eq, decide_eq_false_iff_not, Bool.cond_false_right, Bool.cond_true_right, Bool.cond_true_left, Bool.cond_false_left, Bool.and_eq_true, Bool.or_eq_true, Bool.not_eq_true', bytesLim, maxLen, List.length_cons, List.length_nil, List.length_append, byteSize_lit] at *; omega)) (need_nil), ?_⟩
      refine ⟨fun h2 => ?_, fun h2 => ?_⟩
      · refine ⟨need_cons (by first | assumption | omega | (intro; omega) | (simp only [decide_eq_true_eq, decide_eq_false_iff_not, Bool.cond_false_right, Bool.cond_true_right, Bool.cond_true_left, Bool.cond_false_left, Bool.and_eq_true, Bool.or_eq_true, Bool.not_eq_true', bytesLim, maxLen, List.length_cons, List.length_nil, List.length_append, byteSize_lit] at *; omega) | (intro; simp only [decide_eq_true_eq, decide_eq_false_iff_not, Bool.cond_false_right, Bool.cond_true_right, Bool.cond_true_left, Bool.cond_false_left, Bool.and_eq_true, Bool.or_eq_true, Bool.not_eq_true', bytesLim, maxLen, List.length_cons, List.length_nil, List.length_append, byteSize_lit] at *; omega)) (need_nil), ?_⟩
        refine ⟨need_cons (by unfold bytesLim maxLen; simp only [List.length_append, List.length_cons, List.length_nil]; omega) (need_nil), ?_⟩
        have hF : r13_insertLF a1 (a0.drop i) v2 v4 = r13_insertLF a1 (a0.drop (i + 1)) v2 (v4 ++ [(a0.getD i default)]) := by rw [hd]; first | exact (cond_f h1 (cond_t h2 rfl)) | simp only [r13_insertLF, h0, h1, h2, cond_true, cond_false]
        refine ⟨⟨(v2, (i + 1), (v4 ++ [(a0.getD i default)])), by (first | dsimp only | skip); constructor <;> (try simp only [List.length_append, List.length_cons, List.length_nil]) <;> omega⟩, by show a0.length - (i + 1) < a0.length - i; omega, ?_, ?_⟩
        · show _ = r13_insertLS a0 a1 v2 (i + 1) (v4 ++ [(a0.getD i default)])
          unfold r13_insertLS
          simp only [hw]
        · show (r13_insertLT a0 a1 v2 (i + 1) (v4 ++ [(a0.getD i default)])).All Q
          unfold r13_insertLT at hT ⊢
          rw [hF] at hT
          exact hT
      · have hF : r13_insertLF a1 (a0.drop i) v2 v4 = r13_insertLF a1 (a0.drop (i + 1)) v2 v4 := by rw [hd]; first | exact (cond_f h1 (cond_f h2 rfl)) | simp only [r13_insertLF, h0, h1, h2, cond_true, cond_false]
        refine ⟨⟨(v2, (i + 1), v4), by (first | dsimp only | skip); constructor <;> (try simp only [List.length_append, List.length_cons, List.length_nil]) <;> omega⟩, by show a0.length - (i + 1) < a0.length - i; omega, ?_, ?_⟩
        · show _ = r13_insertLS a0 a1 v2 (i + 1) v4
          unfold r13_insertLS
          simp only [hw]
        · show (r13_insertLT a0 a1 v2 (i + 1) v4).All Q
          unfold r13_insertLT at hT ⊢
          rw [hF] at hT
          exact hT
  · have hge : ¬ i < a0.length := by simpa using h0
    have hd : a0.drop i = [] := List.drop_eq_nil_of_le (by omega)
    have hF : r13_insertLF a1 (a0.drop i) v2 v4 = (v2, v4) := by rw [hd]; first | exact rfl | simp only [r13_insertLF, h0, cond_true, cond_false]
    unfold r13_insertLT at hT
    rw [hF] at hT
    exact hT
theorem r13_insertLF_len (a1 : ByteArray) : ∀ (l : List ByteArray) (v2 : Bool) (v4 : List ByteArray), (r13_insertLF a1 l v2 v4).2.length + (cond (r13_insertLF a1 l v2 v4).1 0 1) ≤ v4.length + l.length + (cond v2 0 1)
  | [], v2, v4 => by unfold r13_insertLF; simp
  | o :: r, v2, v4 => by
    unfold r13_insertLF
    cases v2 <;> cases (strLess a1 o || decide (a1 = o)) <;> cases decide (o = a1) <;> simp only [Bool.not_true, Bool.not_false, cond_true, cond_false]
    all_goals (first
      | (have := r13_insertLF_len a1 r true ((v4 ++ [a1]) ++ [o]); simp only [List.length_append, List.length_cons, List.length_nil, cond_true] at *; omega)
      | (have := r13_insertLF_len a1 r true (v4 ++ [a1]); simp only [List.length_append, List.length_cons, List.length_nil, cond_true] at *; omega)
      | (have := r13_insertLF_len a1 r false (v4 ++ [o]); simp only [List.length_append, List.length_cons, List.length_nil, cond_false] at *; omega)
      | (have := r13_insertLF_len a1 r true (v4 ++ [o]); simp only [List.length_append, List.length_cons, List.length_nil, cond_true] at *; omega)
      | (have := r13_insertLF_len a1 r false v4; simp only [List.length_cons, cond_false] at *; omega)
      | (have := r13_insertLF_len a1 r true v4; simp only [List.length_cons, cond_true] at *; omega))
def r13_insertF (a0 : List ByteArray) (a1 : ByteArray) : List ByteArray :=
  cond (!((r13_insertLF a1 a0 false []).1))
    (((r13_insertLF a1 a0 false []).2) ++ [a1])
    ((r13_insertLF a1 a0 false []).2)
def r13_insertR (a0 : List ByteArray) (a1 : ByteArray) : RT :=
  (.ask (!((r13_insertLF a1 a0 false []).1))
    (.need [(((r13_insertLF a1 a0 false []).2).length + [a1].length) * 16 ≤ bytesLim ∧ ((r13_insertLF a1 a0 false []).2).length + [a1].length ≤ maxLen]
      (.leaf .ret ⟨slots 48 [(4, .vec 0)], [.vec true ⟨.str, (((r13_insertLF a1 a0 false []).2) ++ [a1])⟩]⟩ [2]))
    (.leaf .ret ⟨slots 48 [(4, .vec 0)], [.vec true ⟨.str, (r13_insertLF a1 a0 false []).2⟩]⟩ []))
theorem r13_insertF_tr (a0 : List ByteArray) (a1 : ByteArray) (hp0 : a0.length ≤ 64) : Tr Try.prog 0 (bodyOf Try.f32) (fnBegins Try.f32 [.coll ⟨.str, a0⟩, .str a1] []) (fnEnds Try.prog Try.f32 (.vec 0) [.vec true ⟨.str, r13_insertF a0 a1⟩]) := by
  refine Tr_tree (kok _ _ _ _ _ _) (E := E_r13_insert) (L := (loopsOf [(0, r13_insertLS a0 a1 false 0 [], [1], r13_insertLT a0 a1 false 0 [])])) 60 9999 (LoopsOk.one (g := loopAt Try.f32 0) (b := 0) (by kernel_rfl) (by kernel_rfl) (by kernel_rfl) (by kernel_rfl) (fun Q h => r13_insertL_loop a0 a1 hp0 (by omega) ⟨(false, 0, []), ⟨Nat.zero_le _, Nat.zero_le _⟩⟩ Q h)) (r13_insertR a0 a1) (by kernel_rfl) (by kernel_rfl) (by kernel_rfl) ?_
  unfold r13_insertR
  refine ⟨fun h0 => ?_, fun h0 => ?_⟩
  · refine ⟨need_cons (by have h9 := r13_insertLF_len a1 a0 false []; simp only [List.length_nil, cond_false] at h9; unfold bytesLim maxLen; simp only [List.length_cons, List.length_nil]; omega) (need_nil), ?_⟩
    have hF : r13_insertF a0 a1 = (((r13_insertLF a1 a0 false []).2) ++ [a1]) := by first | exact (cond_t h0 rfl) | simp only [r13_insertF, h0, cond_true, cond_false]
    exact ⟨trivial, .inl (by first | (rw [hF]; kernel_rfl) | kernel_rfl), by first | (rw [hF]; kernel_rfl) | kernel_rfl⟩
  · have hF : r13_insertF a0 a1 = ((r13_insertLF a1 a0 false []).2) := by first | exact (cond_f h0 rfl) | simp only [r13_insertF, h0, cond_true, cond_false]
    exact ⟨trivial, .inl (by first | (rw [hF]; kernel_rfl) | kernel_rfl), by first | (rw [hF]; kernel_rfl) | kernel_rfl⟩
noncomputable def r13_insert_fact : Fact Try.prog := factOf 32 Try.f32 (by kernel_rfl) rfl (by kernel_rfl) [.c (.coll .str), .c (.str)] [] false (fun t u => .vec 0) (fun t u => [.vec true ⟨.str, r13_insertF t.1 t.2.1⟩]) (fun t u => [t.1.length ≤ 64])
  (nofun) (fun t u => by kernel_rfl) (fun t u => by kernel_rfl) (fun t u h => r13_insertF_tr t.1 t.2.1 (h _ List.mem_cons_self))
noncomputable def E_r13_Wanted : Env := envOf (P := Try.prog) [r12_Uniq_fact, r12_Get_fact, r13_insert_fact] [] [] ckf
theorem r13_insertF_len (l : List ByteArray) (s : ByteArray) : (r13_insertF l s).length ≤ l.length + 1 := by
  have h := r13_insertLF_len s l false []
  unfold r13_insertF
  cases h2 : (r13_insertLF s l false []).1 <;> rw [h2] at h <;> simp only [Bool.not_true, Bool.not_false, cond_true, cond_false, List.length_append, List.length_cons, List.length_nil] at * <;> omega
def r13_WantedLF (a0 : List XObj) (a1 : ByteArray) : List XObj → List ByteArray → List ByteArray
  | [], v3 => v3
  | o :: r, v3 => cond (cond (cond (!((o.kind) == (6 : Int))) true (decide ((o.node) = (⟨#[]⟩ : ByteArray)))) true (o.deleting))
    (r13_WantedLF a0 a1 r v3)
    (cond (cond (cond ((r12_GetF (r12_UniqF a0) (3 : Int) (o.claim)).2) ((((r12_GetF (r12_UniqF a0) (3 : Int) (o.claim)).1).phase) == (3 : Int)) false) (decide ((((r12_GetF (r12_UniqF a0) (3 : Int) (o.claim)).1).volume) = a1)) false)
      (r13_WantedLF a0 a1 r (r13_insertF v3 (o.node)))
      (r13_WantedLF a0 a1 r v3))
def r13_WantedLS (a0 : List XObj) (a1 : ByteArray) (i : Nat) (v3 : List ByteArray) : St :=
  ⟨slots 74 [(1, .str a1), (5, .vec 0), (8, .vec 1), (9, .int .i64 (i : Int))], [.vec true ⟨.obj, r12_UniqF a0⟩, .vec true ⟨.str, v3⟩]⟩
def r13_WantedLR (a0 : List XObj) (a1 : ByteArray) (i : Nat) (v3 : List ByteArray) : RT :=
  (.ask (decide ((i : Int) < ((r12_UniqF a0).length : Int)))
    (.need [0 ≤ (i : Int) ∧ (i : Int) < ((r12_UniqF a0).length : Int)]
      (.ask (cond (cond (!((((r12_UniqF a0).getD i default).kind) == (6 : Int))) true (decide ((((r12_UniqF a0).getD i default).node) = (⟨#[]⟩ : ByteArray)))) true (((r12_UniqF a0).getD i default).deleting))
        (.leaf .normal ⟨slots 74 [(1, .str a1), (5, .vec 0), (8, .vec 1), (9, .int .i64 (IntKind.i64.wrap ((i : Int) + (1 : Int))))], [.vec true ⟨.obj, r12_UniqF a0⟩, .vec true ⟨.str, v3⟩]⟩ [])
        (.need [(r12_UniqF a0).length < 4611686018427387904]
          (.ask (cond (cond ((r12_GetF (r12_UniqF a0) (3 : Int) (((r12_UniqF a0).getD i default).claim)).2) ((((r12_GetF (r12_UniqF a0) (3 : Int) (((r12_UniqF a0).getD i default).claim)).1).phase) == (3 : Int)) false) (decide ((((r12_GetF (r12_UniqF a0) (3 : Int) (((r12_UniqF a0).getD i default).claim)).1).volume) = a1)) false)
            (.need [v3.length ≤ 64]
              (.leaf .normal ⟨slots 74 [(1, .str a1), (5, .vec 0), (8, .vec 1), (9, .int .i64 (IntKind.i64.wrap ((i : Int) + (1 : Int))))], [.vec true ⟨.obj, r12_UniqF a0⟩, .vec true ⟨.str, r13_insertF v3 (((r12_UniqF a0).getD i default).node)⟩]⟩ [0, 4]))
            (.leaf .normal ⟨slots 74 [(1, .str a1), (5, .vec 0), (8, .vec 1), (9, .int .i64 (IntKind.i64.wrap ((i : Int) + (1 : Int))))], [.vec true ⟨.obj, r12_UniqF a0⟩, .vec true ⟨.str, v3⟩]⟩ [])))))
    (.leaf (.exit 0) ⟨slots 74 [(8, .vec 0)], [.vec true ⟨.str, v3⟩]⟩ [1]))
def r13_WantedLT (a0 : List XObj) (a1 : ByteArray) (i : Nat) (v3 : List ByteArray) : Tree :=
  .leaf (.exit 0) ⟨slots 74 [(8, .vec 0)], [.vec true ⟨.str, r13_WantedLF a0 a1 ((r12_UniqF a0).drop i) v3⟩]⟩
theorem r13_WantedL_loop (a0 : List XObj) (a1 : ByteArray) (hp0 : a0.length ≤ 64) (hlen : (r12_UniqF a0).length < 4611686018427387904) (z : { z : Nat × List ByteArray // z.1 ≤ (r12_UniqF a0).length ∧ z.2.length ≤ z.1 }) (Q : Exit → St → Prop) (h : (r13_WantedLT a0 a1 z.1.1 z.1.2).All Q) : Tr Try.prog 0 (.loop (loopAt Try.f15 0)) (r13_WantedLS a0 a1 z.1.1 z.1.2) Q := by
  refine Tr_loopT (kok _ _ _ _ _ _) (E := E_r13_Wanted) (ι := { z : Nat × List ByteArray // z.1 ≤ (r12_UniqF a0).length ∧ z.2.length ≤ z.1 }) 60 0 (fun _ => noLoops) (fun z => r13_WantedLS a0 a1 z.1.1 z.1.2) (fun z => r13_WantedLT a0 a1 z.1.1 z.1.2) (fun z => r13_WantedLR a0 a1 z.1.1 z.1.2) (fun z => (r12_UniqF a0).length - z.1.1) (fun _ => LoopsOk.none) (fun z => by obtain ⟨⟨i, v3⟩, hi⟩ := z; kernel_rfl) (fun z => by obtain ⟨⟨i, v3⟩, hi⟩ := z; kernel_rfl) (fun z => by obtain ⟨⟨i, v3⟩, hi⟩ := z; kernel_rfl) ?_ z Q h
  rintro ⟨⟨i, v3⟩, hi⟩ Q hT
  replace hT : (r13_WantedLT a0 a1 i v3).All Q := hT
  replace hi : i ≤ (r12_UniqF a0).length ∧ v3.length ≤ i := hi
  show (r13_WantedLR a0 a1 i v3).All _
  unfold r13_WantedLR
  refine ⟨fun h0 => ?_, fun h0 => ?_⟩
  · have hlt : i < (r12_UniqF a0).length := by simpa using h0
    have hd := drop_getD hlt
    have hw := wrap_succ (i := i) (by omega)
    refine ⟨need_cons (by first | assumption | omega | exact r12_Uniq_len _ (by assumption) | exact r12_Uniq_short _ (by assumption)) (need_nil), ?_⟩
    refine ⟨fun h1 => ?_, fun h1 => ?_⟩
    · have hF : r13_WantedLF a0 a1 ((r12_UniqF a0).drop i) v3 = r13_WantedLF a0 a1 ((r12_UniqF a0).drop (i + 1)) v3 := by rw [hd]; first | exact (cond_t h1 rfl) | simp only [r13_WantedLF, h0, h1, cond_true, cond_false]
      refine ⟨⟨((i + 1), v3), by (first | dsimp only | skip); refine ⟨by omega, ?_⟩; first | omega | exact Nat.le_trans (r13_insertF_len _ _) (by omega)⟩, by show (r12_UniqF a0).length - (i + 1) < (r12_UniqF a0).length - i; omega, ?_, ?_⟩
      · show _ = r13_WantedLS a0 a1 (i + 1) v3
        unfold r13_WantedLS
        simp only [hw]
      · show (r13_WantedLT a0 a1 (i + 1) v3).All Q
        unfold r13_WantedLT at hT ⊢
        rw [hF] at hT
        exact hT
    · refine ⟨need_cons (by first | assumption | omega | exact r12_Uniq_len _ (by assumption) | exact r12_Uniq_short _ (by assumption)) (need_nil), ?_⟩
      refine ⟨fun h2 => ?_, fun h2 => ?_⟩
      · refine ⟨need_cons (by have h9 := r12_Uniq_le a0; omega) (need_nil), ?_⟩
        have hF : r13_WantedLF a0 a1 ((r12_UniqF a0).drop i) v3 = r13_WantedLF a0 a1 ((r12_UniqF a0).drop (i + 1)) (r13_insertF v3 (((r12_UniqF a0).getD i default).node)) := by rw [hd]; first | exact (cond_f h1 (cond_t h2 rfl)) | simp only [r13_WantedLF, h0, h1, h2, cond_true, cond_false]
        refine ⟨⟨((i + 1), r13_insertF v3 (((r12_UniqF a0).getD i default).node)), by (first | dsimp only | skip); refine ⟨by omega, ?_⟩; first | omega | exact Nat.le_trans (r13_insertF_len _ _) (by omega)⟩, by show (r12_UniqF a0).length - (i + 1) < (r12_UniqF a0).length - i; omega, ?_, ?_⟩
        · show _ = r13_WantedLS a0 a1 (i + 1) (r13_insertF v3 (((r12_UniqF a0).getD i default).node))
          unfold r13_WantedLS
          simp only [hw]
        · show (r13_WantedLT a0 a1 (i + 1) (r13_insertF v3 (((r12_UniqF a0).getD i default).node))).All Q
          unfold r13_WantedLT at hT ⊢
          rw [hF] at hT
          exact hT
      · have hF : r13_WantedLF a0 a1 ((r12_UniqF a0).drop i) v3 = r13_WantedLF a0 a1 ((r12_UniqF a0).drop (i + 1)) v3 := by rw [hd]; first | exact (cond_f h1 (cond_f h2 rfl)) | simp only [r13_WantedLF, h0, h1, h2, cond_true, cond_false]
        refine ⟨⟨((i + 1), v3), by (first | dsimp only | skip); refine ⟨by omega, ?_⟩; first | omega | exact Nat.le_trans (r13_insertF_len _ _) (by omega)⟩, by show (r12_UniqF a0).length - (i + 1) < (r12_UniqF a0).length - i; omega, ?_, ?_⟩
        · show _ = r13_WantedLS a0 a1 (i + 1) v3
          unfold r13_WantedLS
          simp only [hw]
        · show (r13_WantedLT a0 a1 (i + 1) v3).All Q
          unfold r13_WantedLT at hT ⊢
          rw [hF] at hT
          exact hT
  · have hge : ¬ i < (r12_UniqF a0).length := by simpa using h0
    have hd : (r12_UniqF a0).drop i = [] := List.drop_eq_nil_of_le (by omega)
    have hF : r13_WantedLF a0 a1 ((r12_UniqF a0).drop i) v3 = v3 := by rw [hd]; first | exact rfl | simp only [r13_WantedLF, h0, cond_true, cond_false]
    unfold r13_WantedLT at hT
    rw [hF] at hT
    exact hT
def r13_WantedF (a0 : List XObj) (a1 : ByteArray) : List ByteArray :=
  cond (cond (!((r12_GetF (r12_UniqF a0) (4 : Int) a1).2)) true (!((((r12_GetF (r12_UniqF a0) (4 : Int) a1).1).phase) == (3 : Int))))
    []
    (r13_WantedLF a0 a1 (r12_UniqF a0) [])
def r13_WantedR (a0 : List XObj) (a1 : ByteArray) : RT :=
  (.need [a0.length ≤ 64]
    (.need [(r12_UniqF a0).length < 4611686018427387904]
      (.ask (cond (!((r12_GetF (r12_UniqF a0) (4 : Int) a1).2)) true (!((((r12_GetF (r12_UniqF a0) (4 : Int) a1).1).phase) == (3 : Int))))
        (.leaf .ret ⟨slots 74 [(4, .vec 0)], [.vec true ⟨.str, []⟩]⟩ [3])
        (.leaf .ret ⟨slots 74 [(4, .vec 0)], [.vec true ⟨.str, r13_WantedLF a0 a1 (r12_UniqF a0) []⟩]⟩ []))))
theorem r13_WantedF_tr (a0 : List XObj) (a1 : ByteArray) (hp0 : a0.length ≤ 64) : Tr Try.prog 0 (bodyOf Try.f15) (fnBegins Try.f15 [.coll ⟨.obj, a0⟩, .str a1] []) (fnEnds Try.prog Try.f15 (.vec 0) [.vec true ⟨.str, r13_WantedF a0 a1⟩]) := by
  refine Tr_tree (kok _ _ _ _ _ _) (E := E_r13_Wanted) (L := (loopsOf [(0, r13_WantedLS a0 a1 0 [], [1, 3], r13_WantedLT a0 a1 0 [])])) 60 9999 (LoopsOk.one (g := loopAt Try.f15 0) (b := 0) (by kernel_rfl) (by kernel_rfl) (by kernel_rfl) (by kernel_rfl) (fun Q h => r13_WantedL_loop a0 a1 hp0 (by first | assumption | omega | exact r12_Uniq_len _ (by assumption) | exact r12_Uniq_short _ (by assumption)) ⟨(0, []), ⟨Nat.zero_le _, Nat.le_refl _⟩⟩ Q h)) (r13_WantedR a0 a1) (by kernel_rfl) (by kernel_rfl) (by kernel_rfl) ?_
  unfold r13_WantedR
  refine ⟨need_cons (by first | assumption | omega | exact r12_Uniq_len _ (by assumption) | exact r12_Uniq_short _ (by assumption)) (need_nil), ?_⟩
  refine ⟨need_cons (by first | assumption | omega | exact r12_Uniq_len _ (by assumption) | exact r12_Uniq_short _ (by assumption)) (need_nil), ?_⟩
  refine ⟨fun h0 => ?_, fun h0 => ?_⟩
  · have hF : r13_WantedF a0 a1 = [] := by first | exact (cond_t h0 rfl) | simp only [r13_WantedF, h0, cond_true, cond_false]
    exact ⟨trivial, .inl (by first | (rw [hF]; kernel_rfl) | kernel_rfl), by first | (rw [hF]; kernel_rfl) | kernel_rfl⟩
  · have hF : r13_WantedF a0 a1 = (r13_WantedLF a0 a1 (r12_UniqF a0) []) := by first | exact (cond_f h0 rfl) | simp only [r13_WantedF, h0, cond_true, cond_false]
    exact ⟨trivial, .inl (by first | (rw [hF]; kernel_rfl) | kernel_rfl), by first | (rw [hF]; kernel_rfl) | kernel_rfl⟩
noncomputable def r13_Wanted_fact : Fact Try.prog := factOf 15 Try.f15 (by kernel_rfl) rfl (by kernel_rfl) [.c (.coll .obj), .c (.str)] [] false (fun t u => .vec 0) (fun t u => [.vec true ⟨.str, r13_WantedF t.1 t.2.1⟩]) (fun t u => [t.1.length ≤ 64])
  (nofun) (fun t u => by kernel_rfl) (fun t u => by kernel_rfl) (fun t u h => r13_WantedF_tr t.1 t.2.1 (h _ List.mem_cons_self))
end Go.Proofs.Ytbcnehpndoghcaa
