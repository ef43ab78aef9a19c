/- Data: each once. -/
import Derived.Test.YtondcpkhedjajaaDoorDNames
set_option linter.unusedVariables false
set_option linter.unusedSimpArgs false
set_option maxRecDepth 100000
namespace Go.Proofs.YtondcpkhedjajaaDoor
open Go Go.Eng
noncomputable def E_r12_Uniq : Env := envOf (P := Tryd.prog) [r12_Get_fact] [] [] ckf
def r12_UniqLF  : List XObj → List XObj → List XObj
  | [], v2 => v2
  | o :: r, v2 => cond (!((r12_GetF v2 (o.kind) (o.name)).2))
    (r12_UniqLF r (v2 ++ [o]))
    (r12_UniqLF r v2)
def r12_UniqLS (a0 : List XObj) (i : Nat) (v2 : List XObj) : St :=
  ⟨slots 38 [(0, .coll ⟨.obj, a0⟩), (3, .vec 0), (4, .int .i64 (i : Int))], [.vec true ⟨.obj, v2⟩]⟩
def r12_UniqLR (a0 : List XObj) (i : Nat) (v2 : List XObj) : RT :=
  (.ask (decide ((i : Int) < (a0.length : Int)))
    (.need [0 ≤ (i : Int) ∧ (i : Int) < (a0.length : Int), 0 ≤ (i : Int) ∧ (i : Int) < (a0.length : Int), v2.length < 4611686018427387904]
      (.ask (!((r12_GetF v2 ((a0.getD i default).kind) ((a0.getD i default).name)).2))
        (.need [0 ≤ (i : Int) ∧ (i : Int) < (a0.length : Int)]
          (.need [(v2.length + [(a0.getD i default)].length) * 192 ≤ bytesLim ∧ v2.length + [(a0.getD i default)].length ≤ maxLen]
            (.leaf .normal ⟨slots 38 [(0, .coll ⟨.obj, a0⟩), (3, .vec 0), (4, .int .i64 (IntKind.i64.wrap ((i : Int) + (1 : Int))))], [.vec true ⟨.obj, (v2 ++ [(a0.getD i default)])⟩]⟩ [3])))
        (.leaf .normal ⟨slots 38 [(0, .coll ⟨.obj, a0⟩), (3, .vec 0), (4, .int .i64 (IntKind.i64.wrap ((i : Int) + (1 : Int))))], [.vec true ⟨.obj, v2⟩]⟩ [])))
    (.leaf (.exit 0) ⟨slots 38 [(3, .vec 0)], [.vec true ⟨.obj, v2⟩]⟩ []))
def r12_UniqLT (a0 : List XObj) (i : Nat) (v2 : List XObj) : Tree :=
  .leaf (.exit 0) ⟨slots 38 [(3, .vec 0)], [.vec true ⟨.obj, r12_UniqLF (a0.drop i) v2⟩]⟩
theorem r12_UniqL_loop (a0 : List XObj) (hp0 : a0.length ≤ 24) (hlen : a0.length < 4611686018427387904) (z : { z : Nat × List XObj // z.1 ≤ a0.length ∧ z.2.length ≤ z.1 }) (Q : Exit → St → Prop) (h : (r12_UniqLT a0 z.1.1 z.1.2).All Q) : Tr Tryd.prog 0 (.loop (loopAt Tryd.f27 0)) (r12_UniqLS a0 z.1.1 z.1.2) Q := by
  refine Tr_loopT (kok _ _ _ _ _) (E := E_r12_Uniq) (ι := { z : Nat × List XObj // z.1 ≤ a0.length ∧ z.2.length ≤ z.1 }) 60 0 (fun _ => noLoops) (fun z => r12_UniqLS a0 z.1.1 z.1.2) (fun z => r12_UniqLT a0 z.1.1 z.1.2) (fun z => r12_UniqLR a0 z.1.1 z.1.2) (fun z => a0.length - z.1.1) (fun _ => LoopsOk.none) (fun z => by obtain ⟨⟨i, v2⟩, hi⟩ := z; kernel_rfl) (fun z => by obtain ⟨⟨i, v2⟩, hi⟩ := z; kernel_rfl) (fun z => by obtain ⟨⟨i, v2⟩, hi⟩ := z; kernel_rfl) ?_ z Q h
  rintro ⟨⟨i, v2⟩, hi⟩ Q hT
  replace hT : (r12_UniqLT a0 i v2).All Q := hT
  replace hi : i ≤ a0.length ∧ v2.length ≤ i := hi
  show (r12_UniqLR a0 i v2).All _
  unfold r12_UniqLR
  refine ⟨fun h0 => ?_, fun h0 => ?_⟩
  · have hlt : i < a0.length := by simpa using h0
    have hd := drop_getD hlt
    have hw := wrap_succ (i := i) (by omega)
    refine ⟨need_cons (by first | assumption | omega | (intro; omega) | (simp only [decide_eq_true_eq, decide_eq_false_iff_not, Bool.cond_false_right, Bool.cond_true_right, Bool.cond_true_left, Bool.cond_false_left, Bool.and_eq_true, Bool.or_eq_true, Bool.not_eq_true', bytesLim, maxLen, List.length_cons, List.length_nil, List.length_append, byteSize_lit] at *; omega) | (intro; simp only [decide_eq_true_eq, decide_eq_false_iff_not, Bool.cond_false_right, Bool.cond_true_right, Bool.cond_true_left, Bool.cond_false_left, Bool.and_eq_true, Bool.or_eq_true, Bool.not_eq_true', bytesLim, maxLen, List.length_cons, List.length_nil, List.length_append, byteSize_lit] at *; omega)) (need_cons (by first | assumption | omega | (intro; omega) | (simp only [decide_eq_true_eq, decide_eq_false_iff_not, Bool.cond_false_right, Bool.cond_true_right, Bool.cond_true_left, Bool.cond_false_left, Bool.and_eq_true, Bool.or_eq_true, Bool.not_eq_true', bytesLim, maxLen, List.length_cons, List.length_nil, List.length_append, byteSize_lit] at *; omega) | (intro; simp only [decide_eq_true_eq, decide_eq_false_iff_not, Bool.cond_false_right, Bool.cond_true_right, Bool.cond_true_left, Bool.cond_false_left, Bool.and_eq_true, Bool.or_eq_true, Bool.not_eq_true', bytesLim, maxLen, List.length_cons, List.length_nil, List.length_append, byteSize_lit] at *; omega)) (need_cons (by first | assumption | omega | (intro; omega) | (simp only [decide_eq_true_eq, decide_eq_false_iff_not, Bool.cond_false_right, Bool.cond_true_right, Bool.cond_true_left, Bool.cond_false_left, Bool.and_eq_true, Bool.or_eq_true, Bool.not_eq_true', bytesLim, maxLen, List.length_cons, List.length_nil, List.length_append, byteSize_lit] at *; omega) | (intro; simp only [decide_eq_true_eq, decide_eq_false_iff_not, Bool.cond_false_right, Bool.cond_true_right, Bool.cond_true_left, Bool.cond_false_left, Bool.and_eq_true, Bool.or_eq_true, Bool.not_eq_true', bytesLim, maxLen, List.length_cons, List.length_nil, List.length_append, byteSize_lit] at *; omega)) (need_nil))), ?_⟩
    refine ⟨fun h1 => ?_, fun h1 => ?_⟩
    · refine ⟨need_cons (by first | assumption | omega | (intro; omega) | (simp only [decide_eq_true_eq, decide_eq_false_iff_not, Bool.cond_false_right, Bool.cond_true_right, Bool.cond_true_left, Bool.cond_false_left, Bool.and_eq_true, Bool.or_eq_true, Bool.not_eq_true', bytesLim, maxLen, List.length_cons, List.length_nil, List.length_append, byteSize_lit] at *; omega) | (intro; simp only [decide_eq_true_eq, decide_eq_false_iff_not, Bool.cond_false_right, Bool.cond_true_right, Bool.cond_true_left, Bool.cond_false_left, Bool.and_eq_true, Bool.or_eq_true, Bool.not_eq_true', bytesLim, maxLen, List.length_cons, List.length_nil, List.length_append, byteSize_lit] at *; omega)) (need_nil), ?_⟩
      refine ⟨need_cons (by first | assumption | omega | (intro; omega) | (simp only [decide_eq_true_eq, decide_eq_false_iff_not, Bool.cond_false_right, Bool.cond_true_right, Bool.cond_true_left, Bool.cond_false_left, Bool.and_eq_true, Bool.or_eq_true, Bool.not_eq_true', bytesLim, maxLen, List.length_cons, List.length_nil, List.length_append, byteSize_lit] at *; omega) | (intro; simp only [decide_eq_true_eq, decide_eq_false_iff_not, Bool.cond_false_right, Bool.cond_true_right, Bool.cond_true_left, Bool.cond_false_left, Bool.and_eq_true, Bool.or_eq_true, Bool.not_eq_true', bytesLim, maxLen, List.length_cons, List.length_nil, List.length_append, byteSize_lit] at *; omega)) (need_nil), ?_⟩
      have hF : r12_UniqLF (a0.drop i) v2 = r12_UniqLF (a0.drop (i + 1)) (v2 ++ [(a0.getD i default)]) := by rw [hd]; first | exact (cond_t h1 rfl) | simp only [r12_UniqLF, h0, h1, cond_true, cond_false]
      refine ⟨⟨((i + 1), (v2 ++ [(a0.getD i default)])), by (first | dsimp only | skip); constructor <;> (try simp only [List.length_append, List.length_cons, List.length_nil]) <;> omega⟩, by show a0.length - (i + 1) < a0.length - i; omega, ?_, ?_⟩
      · show _ = r12_UniqLS a0 (i + 1) (v2 ++ [(a0.getD i default)])
        unfold r12_UniqLS
        simp only [hw]
      · show (r12_UniqLT a0 (i + 1) (v2 ++ [(a0.getD i default)])).All Q
        unfold r12_UniqLT at hT ⊢
        rw [hF] at hT
        exact hT
    · have hF : r12_UniqLF (a0.drop i) v2 = r12_UniqLF (a0.drop (i + 1)) v2 := by rw [hd]; first | exact (cond_f h1 rfl) | simp only [r12_UniqLF, h0, h1, cond_true, cond_false]
      refine ⟨⟨((i + 1), v2), by (first | dsimp only | skip); constructor <;> (try simp only [List.length_append, List.length_cons, List.length_nil]) <;> omega⟩, by show a0.length - (i + 1) < a0.length - i; omega, ?_, ?_⟩
      · show _ = r12_UniqLS a0 (i + 1) v2
        unfold r12_UniqLS
        simp only [hw]
      · show (r12_UniqLT a0 (i + 1) v2).All Q
        unfold r12_UniqLT at hT ⊢
        rw [hF] at hT
        exact hT
  · have hge : ¬ i < a0.length := by simpa using h0
    have hd : a0.drop i = [] := List.drop_eq_nil_of_le (by omega)
    have hF : r12_UniqLF (a0.drop i) v2 = v2 := by rw [hd]; first | exact rfl | simp only [r12_UniqLF, h0, cond_true, cond_false]
    unfold r12_UniqLT at hT
    rw [hF] at hT
    exact hT
def r12_UniqF (a0 : List XObj) : List XObj :=
  r12_UniqLF a0 []
def r12_UniqR (a0 : List XObj) : RT :=
  (.leaf .ret ⟨slots 38 [(2, .vec 0)], [.vec true ⟨.obj, r12_UniqLF a0 []⟩]⟩ [])
theorem r12_UniqF_tr (a0 : List XObj) (hp0 : a0.length ≤ 24) : Tr Tryd.prog 0 (bodyOf Tryd.f27) (fnBegins Tryd.f27 [.coll ⟨.obj, a0⟩] []) (fnEnds Tryd.prog Tryd.f27 (.vec 0) [.vec true ⟨.obj, r12_UniqF a0⟩]) := by
  refine Tr_tree (kok _ _ _ _ _) (E := E_r12_Uniq) (L := (loopsOf [(0, r12_UniqLS a0 0 [], [1], r12_UniqLT a0 0 [])])) 60 9999 (LoopsOk.one (g := loopAt Tryd.f27 0) (b := 0) (by kernel_rfl) (by kernel_rfl) (by kernel_rfl) (by kernel_rfl) (fun Q h => r12_UniqL_loop a0 hp0 (by first | assumption | omega | (simp only [List.length_cons, List.length_nil, List.length_append]; omega)) ⟨(0, []), ⟨Nat.zero_le _, Nat.le_refl _⟩⟩ Q h)) (r12_UniqR a0) (by kernel_rfl) (by kernel_rfl) (by kernel_rfl) ?_
  unfold r12_UniqR
  exact ⟨trivial, .inl (by kernel_rfl), by kernel_rfl⟩
noncomputable def r12_Uniq_fact : Fact Tryd.prog := factOf 27 Tryd.f27 (by kernel_rfl) rfl (by kernel_rfl) [.c (.coll .obj)] [] false (fun t u => .vec 0) (fun t u => [.vec true ⟨.obj, r12_UniqF t.1⟩]) (fun t u => [t.1.length ≤ 24])
  (nofun) (fun t u => by kernel_rfl) (fun t u => by kernel_rfl) (fun t u h => r12_UniqF_tr t.1 (h _ List.mem_cons_self))
end Go.Proofs.YtondcpkhedjajaaDoor
