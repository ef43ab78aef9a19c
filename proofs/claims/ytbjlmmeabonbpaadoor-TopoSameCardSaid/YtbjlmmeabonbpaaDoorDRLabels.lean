/- Topo. -/
import Derived.Test.YtbjlmmeabonbpaaDoorDRParse
set_option linter.unusedVariables false
set_option linter.unusedSimpArgs false
set_option maxRecDepth 100000
namespace Go.Proofs.YtbjlmmeabonbpaaDoor
open Go Go.Eng
noncomputable def E_r02_Labels : Env := envOf (P := Tryd.prog) [r02_Parse_fact] [] [] ckf
theorem r02_ParseF_good (s : ByteArray) (h : s.size ≤ 4294967280) : (r02_ParseF s).2.length ≤ 4294967296 ∧ ∀ q ∈ (r02_ParseF s).2, q.Fine := by
  have hn : (([] : List XTerm)).length ≤ 4294967296 ∧ ∀ q ∈ ([] : List XTerm), q.Fine := ⟨Nat.zero_le _, fun q hq => by simp at hq⟩
  have hg := r02_Parse_good s h
  unfold r02_ParseF
  cases decide (s = (⟨#[]⟩ : ByteArray))
  · rw [cond_false]
    cases (r02_ParseLF (split1 s (⟨#[44]⟩ : ByteArray)) []).1
    · rw [cond_false]
      cases (!(r02_RightTermsF ((r02_ParseLF (split1 s (⟨#[44]⟩ : ByteArray)) []).2)))
      · exact hg
      · exact hn
    · exact hn
  · exact hn
def r02_LabelsLF  : List XTerm → List XLabel → Bool × List XLabel
  | [], v2 => (false, v2)
  | o :: r, v2 => cond (!(((o.values).length : Int) == (1 : Int)))
    (true, default)
    (r02_LabelsLF r (v2 ++ [(⟨o.key, ((o.values).getD 0 default)⟩ : XLabel)]))
def r02_LabelsLS (a0 : ByteArray) (i : Nat) (v2 : List XLabel) : St :=
  ⟨slots 46 [(4, .vec 0), (6, .vec 1), (7, .int .i64 (i : Int))], [.vec true ⟨.term, (r02_ParseF a0).2⟩, .vec true ⟨.label, v2⟩]⟩
def r02_LabelsLR (a0 : ByteArray) (i : Nat) (v2 : List XLabel) : RT :=
  (.ask (decide ((i : Int) < (((r02_ParseF a0).2).length : Int)))
    (.need [0 ≤ (i : Int) ∧ (i : Int) < (((r02_ParseF a0).2).length : Int)]
      (.ask (!((((((r02_ParseF a0).2).getD i default).values).length : Int) == (1 : Int)))
        (.leaf .ret ⟨slots 46 [(2, .vec 0), (3, .int .i64 2)], [.vec true ⟨.label, []⟩]⟩ [2])
        (.need [0 ≤ (i : Int) ∧ (i : Int) < (((r02_ParseF a0).2).length : Int), 0 ≤ (i : Int) ∧ (i : Int) < (((r02_ParseF a0).2).length : Int), 0 ≤ (0 : Int) ∧ (0 : Int) < (((((r02_ParseF a0).2).getD i default).values).length : Int), (v2.length + [(⟨(((r02_ParseF a0).2).getD i default).key, (((((r02_ParseF a0).2).getD i default).values).getD 0 default)⟩ : XLabel)].length) * 32 ≤ bytesLim ∧ v2.length + [(⟨(((r02_ParseF a0).2).getD i default).key, (((((r02_ParseF a0).2).getD i default).values).getD 0 default)⟩ : XLabel)].length ≤ maxLen]
          (.leaf .normal ⟨slots 46 [(4, .vec 0), (6, .vec 1), (7, .int .i64 (IntKind.i64.wrap ((i : Int) + (1 : Int))))], [.vec true ⟨.term, (r02_ParseF a0).2⟩, .vec true ⟨.label, (v2 ++ [(⟨(((r02_ParseF a0).2).getD i default).key, (((((r02_ParseF a0).2).getD i default).values).getD 0 default)⟩ : XLabel)])⟩]⟩ [0, 3]))))
    (.leaf (.exit 0) ⟨slots 46 [(6, .vec 0)], [.vec true ⟨.label, v2⟩]⟩ [1]))
def r02_LabelsLT (a0 : ByteArray) (i : Nat) (v2 : List XLabel) : Tree :=
  .ask ((r02_LabelsLF (((r02_ParseF a0).2).drop i) v2).1) (.leaf .ret ⟨slots 46 [(2, .vec 0), (3, .int .i64 (2 : Int))], [.vec true ⟨.label, []⟩]⟩) (.leaf (.exit 0) ⟨slots 46 [(6, .vec 0)], [.vec true ⟨.label, (r02_LabelsLF (((r02_ParseF a0).2).drop i) v2).2⟩]⟩)
theorem r02_LabelsL_loop (a0 : ByteArray) (hp0 : a0.size ≤ 4294967280) (hlen : ((r02_ParseF a0).2).length < 4611686018427387904) (z : { z : Nat × List XLabel // z.1 ≤ ((r02_ParseF a0).2).length ∧ z.2.length ≤ z.1 }) (Q : Exit → St → Prop) (h : (r02_LabelsLT a0 z.1.1 z.1.2).All Q) : Tr Tryd.prog 0 (.loop (loopAt Tryd.f15 0)) (r02_LabelsLS a0 z.1.1 z.1.2) Q := by
  refine Tr_loopT (kok _ _ _ _ _ _) (E := E_r02_Labels) (ι := { z : Nat × List XLabel // z.1 ≤ ((r02_ParseF a0).2).length ∧ z.2.length ≤ z.1 }) 60 0 (fun _ => noLoops) (fun z => r02_LabelsLS a0 z.1.1 z.1.2) (fun z => r02_LabelsLT a0 z.1.1 z.1.2) (fun z => r02_LabelsLR a0 z.1.1 z.1.2) (fun z => ((r02_ParseF a0).2).length - z.1.1) (fun _ => LoopsOk.none) (fun z => by obtain ⟨⟨i, v2⟩, hi⟩ := z; kernel_rfl) (fun z => by obtain ⟨⟨i, v2⟩, hi⟩ := z; kernel_rfl) (fun z => by obtain ⟨⟨i, v2⟩, hi⟩ := z; kernel_rfl) ?_ z Q h
  rintro ⟨⟨i, v2⟩, hi⟩ Q hT
  replace hT : (r02_LabelsLT a0 i v2).All Q := hT
  replace hi : i ≤ ((r02_ParseF a0).2).length ∧ v2.length ≤ i := hi
  show (r02_LabelsLR a0 i v2).All _
  unfold r02_LabelsLR
  refine ⟨fun h0 => ?_, fun h0 => ?_⟩
  · have hlt : i < ((r02_ParseF a0).2).length := by simpa using h0
    have hd := drop_getD hlt
    have hw := wrap_succ (i := i) (by omega)
    refine ⟨need_cons (by constructor <;> omega) (need_nil), ?_⟩
    refine ⟨fun h1 => ?_, fun h1 => ?_⟩
    · have hF : r02_LabelsLF (((r02_ParseF a0).2).drop i) v2 = (true, default) := by rw [hd]; first | exact (cond_t h1 rfl) | simp only [r02_LabelsLF, h0, h1, cond_true, cond_false]
      unfold r02_LabelsLT at hT
      rw [hF] at hT
      exact hT.1 rfl
    · refine ⟨need_cons (by constructor <;> omega) (need_cons (by constructor <;> omega) (need_cons (by simp only [Bool.not_eq_false', beq_iff_eq] at h1; constructor <;> omega) (need_cons (by unfold bytesLim maxLen; simp only [List.length_cons, List.length_nil]; have h9 := (r02_ParseF_good a0 hp0).1; omega) (need_nil)))), ?_⟩
      have hF : r02_LabelsLF (((r02_ParseF a0).2).drop i) v2 = r02_LabelsLF (((r02_ParseF a0).2).drop (i + 1)) (v2 ++ [(⟨(((r02_ParseF a0).2).getD i default).key, (((((r02_ParseF a0).2).getD i default).values).getD 0 default)⟩ : XLabel)]) := by rw [hd]; first | exact (cond_f h1 rfl) | simp only [r02_LabelsLF, h0, h1, cond_true, cond_false]
      refine ⟨⟨((i + 1), (v2 ++ [(⟨(((r02_ParseF a0).2).getD i default).key, (((((r02_ParseF a0).2).getD i default).values).getD 0 default)⟩ : XLabel)])), by (first | dsimp only | skip); constructor <;> (try simp only [List.length_append, List.length_cons, List.length_nil]) <;> omega⟩, by show ((r02_ParseF a0).2).length - (i + 1) < ((r02_ParseF a0).2).length - i; omega, ?_, ?_⟩
      · show _ = r02_LabelsLS a0 (i + 1) (v2 ++ [(⟨(((r02_ParseF a0).2).getD i default).key, (((((r02_ParseF a0).2).getD i default).values).getD 0 default)⟩ : XLabel)])
        unfold r02_LabelsLS
        simp only [hw]
      · show (r02_LabelsLT a0 (i + 1) (v2 ++ [(⟨(((r02_ParseF a0).2).getD i default).key, (((((r02_ParseF a0).2).getD i default).values).getD 0 default)⟩ : XLabel)])).All Q
        unfold r02_LabelsLT at hT ⊢
        rw [hF] at hT
        exact hT
  · have hge : ¬ i < ((r02_ParseF a0).2).length := by simpa using h0
    have hd : ((r02_ParseF a0).2).drop i = [] := List.drop_eq_nil_of_le (by omega)
    have hF : r02_LabelsLF (((r02_ParseF a0).2).drop i) v2 = (false, v2) := by rw [hd]; first | exact rfl | simp only [r02_LabelsLF, h0, cond_true, cond_false]
    unfold r02_LabelsLT at hT
    rw [hF] at hT
    exact hT.2 rfl
def r02_LabelsF (a0 : ByteArray) : Int × List XLabel :=
  cond (!(((r02_ParseF a0).1) == (0 : Int)))
    (((r02_ParseF a0).1), [])
    (cond ((r02_LabelsLF ((r02_ParseF a0).2) []).1)
      ((2 : Int), [])
      ((0 : Int), (r02_LabelsLF ((r02_ParseF a0).2) []).2))
def r02_LabelsR (a0 : ByteArray) : RT :=
  (.need [a0.size ≤ 4294967280]
    (.ask (!(((r02_ParseF a0).1) == (0 : Int)))
      (.leaf .ret ⟨slots 46 [(2, .vec 0), (3, .int .i64 ((r02_ParseF a0).1))], [.vec true ⟨.label, []⟩]⟩ [2])
      (.ask ((r02_LabelsLF ((r02_ParseF a0).2) []).1)
        (.leaf .ret ⟨slots 46 [(2, .vec 0), (3, .int .i64 (2 : Int))], [.vec true ⟨.label, []⟩]⟩ [])
        (.leaf .ret ⟨slots 46 [(2, .vec 0), (3, .int .i64 0)], [.vec true ⟨.label, (r02_LabelsLF ((r02_ParseF a0).2) []).2⟩]⟩ []))))
theorem r02_LabelsF_tr (a0 : ByteArray) (hp0 : a0.size ≤ 4294967280) : Tr Tryd.prog 0 (bodyOf Tryd.f15) (fnBegins Tryd.f15 [.str a0] []) (fnEnds Tryd.prog Tryd.f15 (.tup [.vec 0, .int .i64 ((r02_LabelsF a0).1)]) [.vec true ⟨.label, (r02_LabelsF a0).2⟩]) := by
  refine Tr_tree (kok _ _ _ _ _ _) (E := E_r02_Labels) (L := (loopsOf [(0, r02_LabelsLS a0 0 [], [1, 2], r02_LabelsLT a0 0 [])])) 60 9999 (LoopsOk.one (g := loopAt Tryd.f15 0) (b := 0) (by kernel_rfl) (by kernel_rfl) (by kernel_rfl) (by kernel_rfl) (fun Q h => r02_LabelsL_loop a0 hp0 (by have h9 := (r02_ParseF_good a0 hp0).1; omega) ⟨(0, []), ⟨Nat.zero_le _, Nat.le_refl _⟩⟩ Q h)) (r02_LabelsR a0) (by kernel_rfl) (by kernel_rfl) (by kernel_rfl) ?_
  unfold r02_LabelsR
  refine ⟨need_cons (by assumption) (need_nil), ?_⟩
  refine ⟨fun h0 => ?_, fun h0 => ?_⟩
  · have hF : r02_LabelsF a0 = (((r02_ParseF a0).1), []) := by first | exact (cond_t h0 rfl) | simp only [r02_LabelsF, h0, cond_true, cond_false]
    exact ⟨trivial, .inl (by first | (rw [hF]; kernel_rfl) | kernel_rfl), by first | (rw [hF]; kernel_rfl) | kernel_rfl⟩
  · refine ⟨fun h1 => ?_, fun h1 => ?_⟩
    · have hF : r02_LabelsF a0 = ((2 : Int), []) := by first | exact (cond_f h0 (cond_t h1 rfl)) | simp only [r02_LabelsF, h0, h1, cond_true, cond_false]
      exact ⟨trivial, .inl (by first | (rw [hF]; kernel_rfl) | kernel_rfl), by first | (rw [hF]; kernel_rfl) | kernel_rfl⟩
    · have hF : r02_LabelsF a0 = ((0 : Int), (r02_LabelsLF ((r02_ParseF a0).2) []).2) := by first | exact (cond_f h0 (cond_f h1 rfl)) | simp only [r02_LabelsF, h0, h1, cond_true, cond_false]
      exact ⟨trivial, .inl (by first | (rw [hF]; kernel_rfl) | kernel_rfl), by first | (rw [hF]; kernel_rfl) | kernel_rfl⟩
noncomputable def r02_Labels_fact : Fact Tryd.prog := factOf 15 Tryd.f15 (by kernel_rfl) rfl (by kernel_rfl) [.c (.str)] [] false (fun t u => .tup [.vec 0, .int .i64 ((r02_LabelsF t.1).1)]) (fun t u => [.vec true ⟨.label, (r02_LabelsF t.1).2⟩]) (fun t u => [t.1.size ≤ 4294967280])
  (nofun) (fun t u => by kernel_rfl) (fun t u => by kernel_rfl) (fun t u h => r02_LabelsF_tr t.1 (h _ List.mem_cons_self))
end Go.Proofs.YtbjlmmeabonbpaaDoor
