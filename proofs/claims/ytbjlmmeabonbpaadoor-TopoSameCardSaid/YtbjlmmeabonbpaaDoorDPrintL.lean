/- Topo. -/
import Derived.Test.YtbjlmmeabonbpaaDoorDH2
set_option linter.unusedVariables false
set_option linter.unusedSimpArgs false
set_option maxRecDepth 100000
namespace Go.Proofs.YtbjlmmeabonbpaaDoor
open Go Go.Eng
noncomputable def E_topo_PrintLabels_1 : Env := envOf (P := Tryd.prog) [] [] [] ckf
def topo_PrintLabels_1F (a0 : XLabel) : ByteArray :=
  (a0.key ++ (⟨#[61]⟩ : ByteArray)) ++ a0.value
def topo_PrintLabels_1R (a0 : XLabel) : RT :=
  (.need [a0.key.size + (⟨#[61]⟩ : ByteArray).size ≤ 9223372036854775807]
    (.need [(a0.key ++ (⟨#[61]⟩ : ByteArray)).size + a0.value.size ≤ 9223372036854775807]
      (.leaf .ret ⟨slots 9 [(2, .str ((a0.key ++ (⟨#[61]⟩ : ByteArray)) ++ a0.value))], []⟩ [])))
theorem topo_PrintLabels_1F_tr (a0 : XLabel) (hp0 : a0.key.size ≤ 24) (hp1 : a0.value.size ≤ 24) : Tr Tryd.prog 0 (bodyOf Tryd.f55) (fnBegins Tryd.f55 [.agg [.str a0.key, .str a0.value]] []) (fnEnds Tryd.prog Tryd.f55 (.str (topo_PrintLabels_1F a0)) []) := by
  refine Tr_tree (kok _ _ _ _ _ _) (E := E_topo_PrintLabels_1) (L := noLoops) 60 9999 LoopsOk.none (topo_PrintLabels_1R a0) (by kernel_rfl) (by kernel_rfl) (by kernel_rfl) ?_
  unfold topo_PrintLabels_1R
  refine ⟨need_cons (by (try simp only [ByteArray.size_append, size_mk, List.size_toArray, List.length_cons, List.length_nil]); omega) (need_nil), ?_⟩
  refine ⟨need_cons (by (try simp only [ByteArray.size_append, size_mk, List.size_toArray, List.length_cons, List.length_nil]); omega) (need_nil), ?_⟩
  exact ⟨trivial, .inl (by kernel_rfl), by kernel_rfl⟩
noncomputable def topo_PrintLabels_1_fact : Fact Tryd.prog := factOf 55 Tryd.f55 (by kernel_rfl) rfl (by kernel_rfl) [.st .label] [] true (fun t u => .str (topo_PrintLabels_1F t.1)) (fun t u => []) (fun t u => [t.1.key.size ≤ 24, t.1.value.size ≤ 24])
  (fun _ _ _ => rfl) (fun t u => by kernel_rfl) (fun t u => by kernel_rfl) (fun t u h => topo_PrintLabels_1F_tr t.1 (h _ List.mem_cons_self) (h _ (List.mem_cons_of_mem _ List.mem_cons_self)))
noncomputable def E_topo_Label_7 : Env := envOf (P := Tryd.prog) [topo_PrintLabels_1_fact] [] [] ckf
def topo_Label_7LF  : List XLabel → List ByteArray → List ByteArray
  | [], v3 => v3
  | o :: r, v3 => topo_Label_7LF r (v3 ++ [topo_PrintLabels_1F o])
def topo_Label_7LS (a0 : List XLabel) (i : Nat) (v3 : List ByteArray) : St :=
  ⟨slots 25 [(1, .fn 55 []), (5, .vec 0), (11, .coll ⟨.label, a0⟩), (12, .int .i64 (a0.length : Int)), (13, .int .i64 (i : Int))], [.vec true ⟨.str, v3⟩]⟩
def topo_Label_7LR (a0 : List XLabel) (i : Nat) (v3 : List ByteArray) : RT :=
  (.ask (decide ((i : Int) < (a0.length : Int)))
    (.need [0 ≤ (i : Int) ∧ (i : Int) < (a0.length : Int)]
      (.need [(a0.getD i default).key.size ≤ 24, (a0.getD i default).value.size ≤ 24]
        (.need [(v3.length + [topo_PrintLabels_1F (a0.getD i default)].length) * 16 ≤ bytesLim ∧ v3.length + [topo_PrintLabels_1F (a0.getD i default)].length ≤ maxLen]
          (.leaf .normal ⟨slots 25 [(1, .fn 55 []), (5, .vec 0), (11, .coll ⟨.label, a0⟩), (12, .int .i64 (a0.length : Int)), (13, .int .i64 (IntKind.i64.wrap ((i : Int) + (1 : Int))))], [.vec true ⟨.str, (v3 ++ [topo_PrintLabels_1F (a0.getD i default)])⟩]⟩ [3]))))
    (.leaf (.exit 0) ⟨slots 25 [(5, .vec 0)], [.vec true ⟨.str, v3⟩]⟩ []))
def topo_Label_7LT (a0 : List XLabel) (i : Nat) (v3 : List ByteArray) : Tree :=
  .leaf (.exit 0) ⟨slots 25 [(5, .vec 0)], [.vec true ⟨.str, topo_Label_7LF (a0.drop i) v3⟩]⟩
theorem topo_Label_7L_loop (a0 : List XLabel) (hp0 : a0.length ≤ 4294967296) (hp1 : ∀ q ∈ a0, GL q) (hlen : a0.length < 4611686018427387904) (z : { z : Nat × List ByteArray // z.1 ≤ a0.length ∧ z.2.length ≤ z.1 }) (Q : Exit → St → Prop) (h : (topo_Label_7LT a0 z.1.1 z.1.2).All Q) : Tr Tryd.prog 0 (.loop (loopAt Tryd.f54 0)) (topo_Label_7LS a0 z.1.1 z.1.2) Q := by
  refine Tr_loopT (kok _ _ _ _ _ _) (E := E_topo_Label_7) (ι := { z : Nat × List ByteArray // z.1 ≤ a0.length ∧ z.2.length ≤ z.1 }) 60 0 (fun _ => noLoops) (fun z => topo_Label_7LS a0 z.1.1 z.1.2) (fun z => topo_Label_7LT a0 z.1.1 z.1.2) (fun z => topo_Label_7LR a0 z.1.1 z.1.2) (fun z => a0.length - z.1.1) (fun _ => LoopsOk.none) (fun z => by obtain ⟨⟨i, v3⟩, hi⟩ := z; kernel_rfl) (fun z => by obtain ⟨⟨i, v3⟩, hi⟩ := z; kernel_rfl) (fun z => by obtain ⟨⟨i, v3⟩, hi⟩ := z; kernel_rfl) ?_ z Q h
  rintro ⟨⟨i, v3⟩, hi⟩ Q hT
  replace hT : (topo_Label_7LT a0 i v3).All Q := hT
  replace hi : i ≤ a0.length ∧ v3.length ≤ i := hi
  show (topo_Label_7LR a0 i v3).All _
  unfold topo_Label_7LR
  refine ⟨fun h0 => ?_, fun h0 => ?_⟩
  · have hlt : i < a0.length := by simpa using h0
    have hd := drop_getD hlt
    have hw := wrap_succ (i := i) (by omega)
    refine ⟨need_cons (by first | assumption | omega | (intro; omega) | (simp only [decide_eq_true_eq, decide_eq_false_iff_not, Bool.cond_false_right, Bool.cond_true_right, Bool.cond_true_left, Bool.cond_false_left, Bool.and_eq_true, Bool.or_eq_true, Bool.not_eq_true', bytesLim, maxLen, List.length_cons, List.length_nil, List.length_append, byteSize_lit] at *; omega) | (intro; simp only [decide_eq_true_eq, decide_eq_false_iff_not, Bool.cond_false_right, Bool.cond_true_right, Bool.cond_true_left, Bool.cond_false_left, Bool.and_eq_true, Bool.or_eq_true, Bool.not_eq_true', bytesLim, maxLen, List.length_cons, List.length_nil, List.length_append, byteSize_lit] at *; omega)) (need_nil), ?_⟩
    refine ⟨need_cons (by first | exact (hp1 _ (gD_mem hlt)).1 | exact (hp1 _ (gD_mem hlt)).2) (need_cons (by first | exact (hp1 _ (gD_mem hlt)).1 | exact (hp1 _ (gD_mem hlt)).2) (need_nil)), ?_⟩
    refine ⟨need_cons (by unfold bytesLim maxLen; simp only [List.length_cons, List.length_nil]; omega) (need_nil), ?_⟩
    have hF : topo_Label_7LF (a0.drop i) v3 = topo_Label_7LF (a0.drop (i + 1)) (v3 ++ [topo_PrintLabels_1F (a0.getD i default)]) := by rw [hd]; first | exact rfl | simp only [topo_Label_7LF, h0, cond_true, cond_false]
    refine ⟨⟨((i + 1), (v3 ++ [topo_PrintLabels_1F (a0.getD i default)])), by (first | dsimp only | skip); constructor <;> (try simp only [List.length_append, List.length_cons, List.length_nil]) <;> omega⟩, by show a0.length - (i + 1) < a0.length - i; omega, ?_, ?_⟩
    · show _ = topo_Label_7LS a0 (i + 1) (v3 ++ [topo_PrintLabels_1F (a0.getD i default)])
      unfold topo_Label_7LS
      simp only [hw]
    · show (topo_Label_7LT a0 (i + 1) (v3 ++ [topo_PrintLabels_1F (a0.getD i default)])).All Q
      unfold topo_Label_7LT at hT ⊢
      rw [hF] at hT
      exact hT
  · have hge : ¬ i < a0.length := by simpa using h0
    have hd : a0.drop i = [] := List.drop_eq_nil_of_le (by omega)
    have hF : topo_Label_7LF (a0.drop i) v3 = v3 := by rw [hd]; first | exact rfl | simp only [topo_Label_7LF, h0, cond_true, cond_false]
    unfold topo_Label_7LT at hT
    rw [hF] at hT
    exact hT
def topo_Label_7F (a0 : List XLabel) : List ByteArray :=
  topo_Label_7LF a0 []
def topo_Label_7R (a0 : List XLabel) : RT :=
  (.need [0 ≤ (0 : Int) ∧ (0 : Int) ≤ (a0.length : Int) ∧ (a0.length : Int) * 16 ≤ 281474976710656 ∧ (a0.length : Int) ≤ 9223372036854775807]
    (.leaf .ret ⟨slots 25 [(4, .vec 0)], [.vec true ⟨.str, topo_Label_7LF a0 []⟩]⟩ []))
theorem topo_Label_7F_tr (a0 : List XLabel) (hp0 : a0.length ≤ 4294967296) (hp1 : ∀ q ∈ a0, GL q) : Tr Tryd.prog 0 (bodyOf Tryd.f54) (fnBegins Tryd.f54 [.coll ⟨.label, a0⟩, .fn 55 []] []) (fnEnds Tryd.prog Tryd.f54 (.vec 0) [.vec true ⟨.str, topo_Label_7F a0⟩]) := by
  refine Tr_tree (kok _ _ _ _ _ _) (E := E_topo_Label_7) (L := (loopsOf [(0, topo_Label_7LS a0 0 [], [1], topo_Label_7LT a0 0 [])])) 60 9999 (LoopsOk.one (g := loopAt Tryd.f54 0) (b := 0) (by kernel_rfl) (by kernel_rfl) (by kernel_rfl) (by kernel_rfl) (fun Q h => topo_Label_7L_loop a0 hp0 hp1 (by omega) ⟨(0, []), ⟨Nat.zero_le _, Nat.le_refl _⟩⟩ Q h)) (topo_Label_7R a0) (by kernel_rfl) (by kernel_rfl) (by kernel_rfl) ?_
  unfold topo_Label_7R
  refine ⟨need_cons (by omega) (need_nil), ?_⟩
  exact ⟨trivial, .inl (by kernel_rfl), by kernel_rfl⟩
noncomputable def topo_Label_7_fact : Fact Tryd.prog := factOf 54 Tryd.f54 (by kernel_rfl) rfl (by kernel_rfl) [.c (.coll .label), .c (.fn 55)] [] false (fun t u => .vec 0) (fun t u => [.vec true ⟨.str, topo_Label_7F t.1⟩]) (fun t u => [t.1.length ≤ 4294967296, ∀ q ∈ t.1, GL q])
  (nofun) (fun t u => by kernel_rfl) (fun t u => by kernel_rfl) (fun t u h => topo_Label_7F_tr t.1 (h _ List.mem_cons_self) (h _ (List.mem_cons_of_mem _ List.mem_cons_self)))
noncomputable def E_topo_PrintLabels : Env := envOf (P := Tryd.prog) [topo_rightLabels_fact, topo_Label_7_fact, joinB_fact] [] [] ckf
theorem topo_Label_7LF_eq : ∀ (l : List XLabel) (v : List ByteArray), topo_Label_7LF l v = v ++ l.map topo_PrintLabels_1F
  | [], v => by unfold topo_Label_7LF; simp
  | o :: r, v => by
    unfold topo_Label_7LF
    rw [topo_Label_7LF_eq r]
    simp
theorem printL_eq (l : List XLabel) : topo_Label_7F l = l.map topo_PrintLabels_1F := by
  unfold topo_Label_7F
  rw [topo_Label_7LF_eq]
  rfl
theorem printL_size (l : List XLabel) (h : RightL l) : (joinB (topo_Label_7F l) (⟨#[44]⟩ : ByteArray)).size ≤ 2408 := by
  rw [printL_eq]
  have h1 := joinB_size (⟨#[44]⟩ : ByteArray) rfl 300 (l.map topo_PrintLabels_1F) (fun q hq => by
    obtain ⟨t, ht, rfl⟩ := List.mem_map.1 hq
    have hg := h.gl t ht
    have h3 := hg.1
    have h4 := hg.2
    unfold topo_PrintLabels_1F
    simp only [ByteArray.size_append, size_mk, List.size_toArray, List.length_cons, List.length_nil]
    omega)
  rw [List.length_map] at h1
  have h5 : l.length * (300 + 1) ≤ 8 * (300 + 1) := Nat.mul_le_mul_right _ h.2.2
  omega
def topo_PrintLabelsF (a0 : List XLabel) : ByteArray × Int :=
  cond (!(topo_rightLabelsF a0))
    ((⟨#[]⟩ : ByteArray), (2 : Int))
    (joinB (topo_Label_7F a0) (⟨#[44]⟩ : ByteArray), (0 : Int))
def topo_PrintLabelsR (a0 : List XLabel) : RT :=
  (.need [a0.length ≤ 4294967296, ∀ q ∈ a0, q.Fine]
    (.ask (!(topo_rightLabelsF a0))
      (.leaf .ret ⟨slots 10 [(2, .str (⟨#[]⟩ : ByteArray)), (3, .int .i64 2)], []⟩ [])
      (.need [a0.length ≤ 4294967296, ∀ q ∈ a0, GL q]
        (.need [(topo_Label_7F a0).length ≤ 4294967296, (joinB (topo_Label_7F a0) (⟨#[44]⟩ : ByteArray)).size ≤ 4294967296]
          (.leaf .ret ⟨slots 10 [(2, .str (joinB (topo_Label_7F a0) (⟨#[44]⟩ : ByteArray))), (3, .int .i64 0)], []⟩ [])))))
theorem topo_PrintLabelsF_tr (a0 : List XLabel) (hp0 : a0.length ≤ 4294967296) (hp1 : ∀ q ∈ a0, q.Fine) : Tr Tryd.prog 0 (bodyOf Tryd.f30) (fnBegins Tryd.f30 [.coll ⟨.label, a0⟩] []) (fnEnds Tryd.prog Tryd.f30 (.tup [.str ((topo_PrintLabelsF a0).1), .int .i64 ((topo_PrintLabelsF a0).2)]) []) := by
  refine Tr_tree (kok _ _ _ _ _ _) (E := E_topo_PrintLabels) (L := noLoops) 60 9999 LoopsOk.none (topo_PrintLabelsR a0) (by kernel_rfl) (by kernel_rfl) (by kernel_rfl) ?_
  unfold topo_PrintLabelsR
  refine ⟨need_cons (by assumption) (need_cons (by assumption) (need_nil)), ?_⟩
  refine ⟨fun h0 => ?_, fun h0 => ?_⟩
  · have hF : topo_PrintLabelsF a0 = ((⟨#[]⟩ : ByteArray), (2 : Int)) := by first | exact (cond_t h0 rfl) | simp only [topo_PrintLabelsF, h0, cond_true, cond_false]
    exact ⟨trivial, .inl (by first | (rw [hF]; kernel_rfl) | kernel_rfl), by first | (rw [hF]; kernel_rfl) | kernel_rfl⟩
  · refine ⟨need_cons (by assumption) (need_cons (by simp only [Bool.not_eq_false'] at h0; exact ((rightLabels_iff a0 hp0).1 h0).gl) (need_nil)), ?_⟩
    refine ⟨need_cons (by rw [printL_eq, List.length_map]; assumption) (need_cons (by simp only [Bool.not_eq_false'] at h0; exact Nat.le_trans (printL_size a0 ((rightLabels_iff a0 hp0).1 h0)) (by decide)) (need_nil)), ?_⟩
    have hF : topo_PrintLabelsF a0 = (joinB (topo_Label_7F a0) (⟨#[44]⟩ : ByteArray), (0 : Int)) := by first | exact (cond_f h0 rfl) | simp only [topo_PrintLabelsF, h0, cond_true, cond_false]
    exact ⟨trivial, .inl (by first | (rw [hF]; kernel_rfl) | kernel_rfl), by first | (rw [hF]; kernel_rfl) | kernel_rfl⟩
noncomputable def topo_PrintLabels_fact : Fact Tryd.prog := factOf 30 Tryd.f30 (by kernel_rfl) rfl (by kernel_rfl) [.c (.coll .label)] [] true (fun t u => .tup [.str ((topo_PrintLabelsF t.1).1), .int .i64 ((topo_PrintLabelsF t.1).2)]) (fun t u => []) (fun t u => [t.1.length ≤ 4294967296, ∀ q ∈ t.1, q.Fine])
  (fun _ _ _ => rfl) (fun t u => by kernel_rfl) (fun t u => by kernel_rfl) (fun t u h => topo_PrintLabelsF_tr t.1 (h _ List.mem_cons_self) (h _ (List.mem_cons_of_mem _ List.mem_cons_self)))
end Go.Proofs.YtbjlmmeabonbpaaDoor
