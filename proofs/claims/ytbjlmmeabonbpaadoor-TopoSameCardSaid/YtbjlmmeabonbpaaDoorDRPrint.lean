/- Topo. -/
import Derived.Test.YtbjlmmeabonbpaaDoorDH2
set_option linter.unusedVariables false
set_option linter.unusedSimpArgs false
set_option maxRecDepth 100000
namespace Go.Proofs.YtbjlmmeabonbpaaDoor
open Go Go.Eng
noncomputable def E_r02_Print : Env := envOf (P := Tryd.prog) [r02_RightTerms_fact, joinB_fact] [] [] ckf
def r02_PrintLF  : List XTerm → ByteArray → Nat → ByteArray
  | [], v1, i => v1
  | o :: r, v1, i => cond (decide ((i : Int) > (0 : Int)))
    (r02_PrintLF r ((v1 ++ (⟨#[44]⟩ : ByteArray)) ++ (((o.key) ++ (⟨#[61]⟩ : ByteArray)) ++ (joinB (o.values) (⟨#[124]⟩ : ByteArray)))) (i + 1))
    (r02_PrintLF r (v1 ++ (((o.key) ++ (⟨#[61]⟩ : ByteArray)) ++ (joinB (o.values) (⟨#[124]⟩ : ByteArray)))) (i + 1))
def r02_PrintLS (a0 : List XTerm) (v1 : ByteArray) (i : Nat) : St :=
  ⟨slots 35 [(0, .coll ⟨.term, a0⟩), (4, .str v1), (5, .int .i64 (i : Int))], []⟩
def r02_PrintLR (a0 : List XTerm) (v1 : ByteArray) (i : Nat) : RT :=
  (.ask (decide ((i : Int) < (a0.length : Int)))
    (.ask (decide ((i : Int) > (0 : Int)))
      (.need [v1.size + (⟨#[44]⟩ : ByteArray).size ≤ 9223372036854775807]
        (.need [0 ≤ (i : Int) ∧ (i : Int) < (a0.length : Int), ((a0.getD i default).key).size + (⟨#[61]⟩ : ByteArray).size ≤ 9223372036854775807, 0 ≤ (i : Int) ∧ (i : Int) < (a0.length : Int), ((a0.getD i default).values).length ≤ 4294967296, (joinB ((a0.getD i default).values) (⟨#[124]⟩ : ByteArray)).size ≤ 4294967296, (((a0.getD i default).key) ++ (⟨#[61]⟩ : ByteArray)).size + (joinB ((a0.getD i default).values) (⟨#[124]⟩ : ByteArray)).size ≤ 9223372036854775807, (v1 ++ (⟨#[44]⟩ : ByteArray)).size + ((((a0.getD i default).key) ++ (⟨#[61]⟩ : ByteArray)) ++ (joinB ((a0.getD i default).values) (⟨#[124]⟩ : ByteArray))).size ≤ 9223372036854775807]
          (.leaf .normal ⟨slots 35 [(0, .coll ⟨.term, a0⟩), (4, .str ((v1 ++ (⟨#[44]⟩ : ByteArray)) ++ ((((a0.getD i default).key) ++ (⟨#[61]⟩ : ByteArray)) ++ (joinB ((a0.getD i default).values) (⟨#[124]⟩ : ByteArray))))), (5, .int .i64 (IntKind.i64.wrap ((i : Int) + (1 : Int))))], []⟩ [])))
      (.need [0 ≤ (i : Int) ∧ (i : Int) < (a0.length : Int), ((a0.getD i default).key).size + (⟨#[61]⟩ : ByteArray).size ≤ 9223372036854775807, 0 ≤ (i : Int) ∧ (i : Int) < (a0.length : Int), ((a0.getD i default).values).length ≤ 4294967296, (joinB ((a0.getD i default).values) (⟨#[124]⟩ : ByteArray)).size ≤ 4294967296, (((a0.getD i default).key) ++ (⟨#[61]⟩ : ByteArray)).size + (joinB ((a0.getD i default).values) (⟨#[124]⟩ : ByteArray)).size ≤ 9223372036854775807, v1.size + ((((a0.getD i default).key) ++ (⟨#[61]⟩ : ByteArray)) ++ (joinB ((a0.getD i default).values) (⟨#[124]⟩ : ByteArray))).size ≤ 9223372036854775807]
        (.leaf .normal ⟨slots 35 [(0, .coll ⟨.term, a0⟩), (4, .str (v1 ++ ((((a0.getD i default).key) ++ (⟨#[61]⟩ : ByteArray)) ++ (joinB ((a0.getD i default).values) (⟨#[124]⟩ : ByteArray))))), (5, .int .i64 (IntKind.i64.wrap ((i : Int) + (1 : Int))))], []⟩ [])))
    (.leaf (.exit 0) ⟨slots 35 [(4, .str v1)], []⟩ []))
def r02_PrintLT (a0 : List XTerm) (v1 : ByteArray) (i : Nat) : Tree :=
  .leaf (.exit 0) ⟨slots 35 [(4, .str (r02_PrintLF (a0.drop i) v1 i))], []⟩
theorem r02_PrintL_loop (a0 : List XTerm) (hp0 : a0.length ≤ 4294967296) (hp1 : ∀ q ∈ a0, q.Fine) (hlen : a0.length < 4611686018427387904) (hn0 : a0.length ≤ 8) (hn1 : ∀ q ∈ a0, GT q) (z : { z : ByteArray × Nat // z.2 ≤ a0.length ∧ z.1.size ≤ z.2 * 300 }) (Q : Exit → St → Prop) (h : (r02_PrintLT a0 z.1.1 z.1.2).All Q) : Tr Tryd.prog 0 (.loop (loopAt Tryd.f29 0)) (r02_PrintLS a0 z.1.1 z.1.2) Q := by
  refine Tr_loopT (kok _ _ _ _ _ _) (E := E_r02_Print) (ι := { z : ByteArray × Nat // z.2 ≤ a0.length ∧ z.1.size ≤ z.2 * 300 }) 60 0 (fun _ => noLoops) (fun z => r02_PrintLS a0 z.1.1 z.1.2) (fun z => r02_PrintLT a0 z.1.1 z.1.2) (fun z => r02_PrintLR a0 z.1.1 z.1.2) (fun z => a0.length - z.1.2) (fun _ => LoopsOk.none) (fun z => by obtain ⟨⟨v1, i⟩, hi⟩ := z; kernel_rfl) (fun z => by obtain ⟨⟨v1, i⟩, hi⟩ := z; kernel_rfl) (fun z => by obtain ⟨⟨v1, i⟩, hi⟩ := z; kernel_rfl) ?_ z Q h
  rintro ⟨⟨v1, i⟩, hi⟩ Q hT
  replace hT : (r02_PrintLT a0 v1 i).All Q := hT
  replace hi : i ≤ a0.length ∧ v1.size ≤ i * 300 := hi
  show (r02_PrintLR a0 v1 i).All _
  unfold r02_PrintLR
  refine ⟨fun h0 => ?_, fun h0 => ?_⟩
  · have hlt : i < a0.length := by simpa using h0
    have hd := drop_getD hlt
    have hw := wrap_succ (i := i) (by omega)
    refine ⟨fun h1 => ?_, fun h1 => ?_⟩
    · refine ⟨need_cons (by have hg := hn1 _ (gD_mem hlt); have h8 := joinB_size (⟨#[124]⟩ : ByteArray) rfl 24 (a0.getD i default).values hg.2.2; have hk := hg.1; have hv := hg.2.1; have hi9 : i * 300 ≤ 2400 := Nat.mul_le_mul_right 300 (by omega : i ≤ 8); (try simp only [ByteArray.size_append, size_mk, List.size_toArray, List.length_cons, List.length_nil]); omega) (need_nil), ?_⟩
      refine ⟨need_cons (by constructor <;> omega) (need_cons (by have hg := hn1 _ (gD_mem hlt); have h8 := joinB_size (⟨#[124]⟩ : ByteArray) rfl 24 (a0.getD i default).values hg.2.2; have hk := hg.1; have hv := hg.2.1; have hi9 : i * 300 ≤ 2400 := Nat.mul_le_mul_right 300 (by omega : i ≤ 8); (try simp only [ByteArray.size_append, size_mk, List.size_toArray, List.length_cons, List.length_nil]); omega) (need_cons (by constructor <;> omega) (need_cons (by have hg := hn1 _ (gD_mem hlt); have h8 := joinB_size (⟨#[124]⟩ : ByteArray) rfl 24 (a0.getD i default).values hg.2.2; have hk := hg.1; have hv := hg.2.1; have hi9 : i * 300 ≤ 2400 := Nat.mul_le_mul_right 300 (by omega : i ≤ 8); omega) (need_cons (by have hg := hn1 _ (gD_mem hlt); have h8 := joinB_size (⟨#[124]⟩ : ByteArray) rfl 24 (a0.getD i default).values hg.2.2; have hk := hg.1; have hv := hg.2.1; have hi9 : i * 300 ≤ 2400 := Nat.mul_le_mul_right 300 (by omega : i ≤ 8); (try simp only [ByteArray.size_append, size_mk, List.size_toArray, List.length_cons, List.length_nil]); omega) (need_cons (by have hg := hn1 _ (gD_mem hlt); have h8 := joinB_size (⟨#[124]⟩ : ByteArray) rfl 24 (a0.getD i default).values hg.2.2; have hk := hg.1; have hv := hg.2.1; have hi9 : i * 300 ≤ 2400 := Nat.mul_le_mul_right 300 (by omega : i ≤ 8); (try simp only [ByteArray.size_append, size_mk, List.size_toArray, List.length_cons, List.length_nil]); omega) (need_cons (by have hg := hn1 _ (gD_mem hlt); have h8 := joinB_size (⟨#[124]⟩ : ByteArray) rfl 24 (a0.getD i default).values hg.2.2; have hk := hg.1; have hv := hg.2.1; have hi9 : i * 300 ≤ 2400 := Nat.mul_le_mul_right 300 (by omega : i ≤ 8); (try simp only [ByteArray.size_append, size_mk, List.size_toArray, List.length_cons, List.length_nil]); omega) (need_nil))))))), ?_⟩
      have hF : r02_PrintLF (a0.drop i) v1 i = r02_PrintLF (a0.drop (i + 1)) ((v1 ++ (⟨#[44]⟩ : ByteArray)) ++ ((((a0.getD i default).key) ++ (⟨#[61]⟩ : ByteArray)) ++ (joinB ((a0.getD i default).values) (⟨#[124]⟩ : ByteArray)))) (i + 1) := by rw [hd]; first | exact (cond_t h1 rfl) | simp only [r02_PrintLF, h0, h1, cond_true, cond_false]
      refine ⟨⟨((v1 ++ (⟨#[44]⟩ : ByteArray)) ++ ((((a0.getD i default).key) ++ (⟨#[61]⟩ : ByteArray)) ++ (joinB ((a0.getD i default).values) (⟨#[124]⟩ : ByteArray))), (i + 1)), by (first | dsimp only | skip); refine ⟨by omega, ?_⟩; have hg := hn1 _ (gD_mem hlt); have h8 := joinB_size (⟨#[124]⟩ : ByteArray) rfl 24 (a0.getD i default).values hg.2.2; have hk := hg.1; have hv := hg.2.1; have hi9 : i * 300 ≤ 2400 := Nat.mul_le_mul_right 300 (by omega : i ≤ 8); (simp only [ByteArray.size_append, size_mk, List.size_toArray, List.length_cons, List.length_nil]); rw [Nat.add_mul]; omega⟩, by show a0.length - (i + 1) < a0.length - i; omega, ?_, ?_⟩
      · show _ = r02_PrintLS a0 ((v1 ++ (⟨#[44]⟩ : ByteArray)) ++ ((((a0.getD i default).key) ++ (⟨#[61]⟩ : ByteArray)) ++ (joinB ((a0.getD i default).values) (⟨#[124]⟩ : ByteArray)))) (i + 1)
        unfold r02_PrintLS
        simp only [hw]
      · show (r02_PrintLT a0 ((v1 ++ (⟨#[44]⟩ : ByteArray)) ++ ((((a0.getD i default).key) ++ (⟨#[61]⟩ : ByteArray)) ++ (joinB ((a0.getD i default).values) (⟨#[124]⟩ : ByteArray)))) (i + 1)).All Q
        unfold r02_PrintLT at hT ⊢
        rw [hF] at hT
        exact hT
    · refine ⟨need_cons (by constructor <;> omega) (need_cons (by have hg := hn1 _ (gD_mem hlt); have h8 := joinB_size (⟨#[124]⟩ : ByteArray) rfl 24 (a0.getD i default).values hg.2.2; have hk := hg.1; have hv := hg.2.1; have hi9 : i * 300 ≤ 2400 := Nat.mul_le_mul_right 300 (by omega : i ≤ 8); (try simp only [ByteArray.size_append, size_mk, List.size_toArray, List.length_cons, List.length_nil]); omega) (need_cons (by constructor <;> omega) (need_cons (by have hg := hn1 _ (gD_mem hlt); have h8 := joinB_size (⟨#[124]⟩ : ByteArray) rfl 24 (a0.getD i default).values hg.2.2; have hk := hg.1; have hv := hg.2.1; have hi9 : i * 300 ≤ 2400 := Nat.mul_le_mul_right 300 (by omega : i ≤ 8); omega) (need_cons (by have hg := hn1 _ (gD_mem hlt); have h8 := joinB_size (⟨#[124]⟩ : ByteArray) rfl 24 (a0.getD i default).values hg.2.2; have hk := hg.1; have hv := hg.2.1; have hi9 : i * 300 ≤ 2400 := Nat.mul_le_mul_right 300 (by omega : i ≤ 8); (try simp only [ByteArray.size_append, size_mk, List.size_toArray, List.length_cons, List.length_nil]); omega) (need_cons (by have hg := hn1 _ (gD_mem hlt); have h8 := joinB_size (⟨#[124]⟩ : ByteArray) rfl 24 (a0.getD i default).values hg.2.2; have hk := hg.1; have hv := hg.2.1; have hi9 : i * 300 ≤ 2400 := Nat.mul_le_mul_right 300 (by omega : i ≤ 8); (try simp only [ByteArray.size_append, size_mk, List.size_toArray, List.length_cons, List.length_nil]); omega) (need_cons (by have hg := hn1 _ (gD_mem hlt); have h8 := joinB_size (⟨#[124]⟩ : ByteArray) rfl 24 (a0.getD i default).values hg.2.2; have hk := hg.1; have hv := hg.2.1; have hi9 : i * 300 ≤ 2400 := Nat.mul_le_mul_right 300 (by omega : i ≤ 8); (try simp only [ByteArray.size_append, size_mk, List.size_toArray, List.length_cons, List.length_nil]); omega) (need_nil))))))), ?_⟩
      have hF : r02_PrintLF (a0.drop i) v1 i = r02_PrintLF (a0.drop (i + 1)) (v1 ++ ((((a0.getD i default).key) ++ (⟨#[61]⟩ : ByteArray)) ++ (joinB ((a0.getD i default).values) (⟨#[124]⟩ : ByteArray)))) (i + 1) := by rw [hd]; first | exact (cond_f h1 rfl) | simp only [r02_PrintLF, h0, h1, cond_true, cond_false]
      refine ⟨⟨(v1 ++ ((((a0.getD i default).key) ++ (⟨#[61]⟩ : ByteArray)) ++ (joinB ((a0.getD i default).values) (⟨#[124]⟩ : ByteArray))), (i + 1)), by (first | dsimp only | skip); refine ⟨by omega, ?_⟩; have hg := hn1 _ (gD_mem hlt); have h8 := joinB_size (⟨#[124]⟩ : ByteArray) rfl 24 (a0.getD i default).values hg.2.2; have hk := hg.1; have hv := hg.2.1; have hi9 : i * 300 ≤ 2400 := Nat.mul_le_mul_right 300 (by omega : i ≤ 8); (simp only [ByteArray.size_append, size_mk, List.size_toArray, List.length_cons, List.length_nil]); rw [Nat.add_mul]; omega⟩, by show a0.length - (i + 1) < a0.length - i; omega, ?_, ?_⟩
      · show _ = r02_PrintLS a0 (v1 ++ ((((a0.getD i default).key) ++ (⟨#[61]⟩ : ByteArray)) ++ (joinB ((a0.getD i default).values) (⟨#[124]⟩ : ByteArray)))) (i + 1)
        unfold r02_PrintLS
        simp only [hw]
      · show (r02_PrintLT a0 (v1 ++ ((((a0.getD i default).key) ++ (⟨#[61]⟩ : ByteArray)) ++ (joinB ((a0.getD i default).values) (⟨#[124]⟩ : ByteArray)))) (i + 1)).All Q
        unfold r02_PrintLT at hT ⊢
        rw [hF] at hT
        exact hT
  · have hge : ¬ i < a0.length := by simpa using h0
    have hd : a0.drop i = [] := List.drop_eq_nil_of_le (by omega)
    have hF : r02_PrintLF (a0.drop i) v1 i = v1 := by rw [hd]; first | exact rfl | simp only [r02_PrintLF, h0, cond_true, cond_false]
    unfold r02_PrintLT at hT
    rw [hF] at hT
    exact hT
def r02_PrintF (a0 : List XTerm) : ByteArray × Int :=
  cond (!(r02_RightTermsF a0))
    ((⟨#[]⟩ : ByteArray), (2 : Int))
    (r02_PrintLF a0 (⟨#[]⟩ : ByteArray) 0, (0 : Int))
def r02_PrintR (a0 : List XTerm) : RT :=
  (.need [a0.length ≤ 4294967296, ∀ q ∈ a0, q.Fine]
    (.ask (!(r02_RightTermsF a0))
      (.leaf .ret ⟨slots 35 [(2, .str (⟨#[]⟩ : ByteArray)), (3, .int .i64 2)], []⟩ [])
      (.need [a0.length ≤ 8, ∀ q ∈ a0, GT q]
        (.leaf .ret ⟨slots 35 [(2, .str (r02_PrintLF a0 (⟨#[]⟩ : ByteArray) 0)), (3, .int .i64 0)], []⟩ []))))
theorem r02_PrintF_tr (a0 : List XTerm) (hp0 : a0.length ≤ 4294967296) (hp1 : ∀ q ∈ a0, q.Fine) : Tr Tryd.prog 0 (bodyOf Tryd.f29) (fnBegins Tryd.f29 [.coll ⟨.term, a0⟩] []) (fnEnds Tryd.prog Tryd.f29 (.tup [.str ((r02_PrintF a0).1), .int .i64 ((r02_PrintF a0).2)]) []) := by
  refine Tr_tree (kok _ _ _ _ _ _) (E := E_r02_Print) (L := (loopsOf [(0, r02_PrintLS a0 (⟨#[]⟩ : ByteArray) 0, [], .need [a0.length ≤ 8, ∀ q ∈ a0, GT q] (r02_PrintLT a0 (⟨#[]⟩ : ByteArray) 0))])) 60 9999 (LoopsOk.one (g := loopAt Tryd.f29 0) (b := 0) (by kernel_rfl) (by kernel_rfl) (by kernel_rfl) (by kernel_rfl) (fun Q h => r02_PrintL_loop a0 hp0 hp1 (by omega) (h.1 _ List.mem_cons_self) (h.1 _ (List.mem_cons_of_mem _ List.mem_cons_self)) ⟨((⟨#[]⟩ : ByteArray), 0), ⟨Nat.zero_le _, Nat.zero_le _⟩⟩ Q h.2)) (r02_PrintR a0) (by kernel_rfl) (by kernel_rfl) (by kernel_rfl) ?_
  unfold r02_PrintR
  refine ⟨need_cons (by omega) (need_cons (by assumption) (need_nil)), ?_⟩
  refine ⟨fun h0 => ?_, fun h0 => ?_⟩
  · have hF : r02_PrintF a0 = ((⟨#[]⟩ : ByteArray), (2 : Int)) := by first | exact (cond_t h0 rfl) | simp only [r02_PrintF, h0, cond_true, cond_false]
    exact ⟨trivial, .inl (by first | (rw [hF]; kernel_rfl) | kernel_rfl), by first | (rw [hF]; kernel_rfl) | kernel_rfl⟩
  · refine ⟨need_cons (by simp only [Bool.not_eq_false'] at h0; exact ((r02_RightTerms_iff a0 hp0 hp1).1 h0).2.2) (need_cons (by simp only [Bool.not_eq_false'] at h0; exact ((r02_RightTerms_iff a0 hp0 hp1).1 h0).gt) (need_nil)), ?_⟩
    have hF : r02_PrintF a0 = (r02_PrintLF a0 (⟨#[]⟩ : ByteArray) 0, (0 : Int)) := by first | exact (cond_f h0 rfl) | simp only [r02_PrintF, h0, cond_true, cond_false]
    exact ⟨trivial, .inl (by first | (rw [hF]; kernel_rfl) | kernel_rfl), by first | (rw [hF]; kernel_rfl) | kernel_rfl⟩
noncomputable def r02_Print_fact : Fact Tryd.prog := factOf 29 Tryd.f29 (by kernel_rfl) rfl (by kernel_rfl) [.c (.coll .term)] [] true (fun t u => .tup [.str ((r02_PrintF t.1).1), .int .i64 ((r02_PrintF t.1).2)]) (fun t u => []) (fun t u => [t.1.length ≤ 4294967296, ∀ q ∈ t.1, q.Fine])
  (fun _ _ _ => rfl) (fun t u => by kernel_rfl) (fun t u => by kernel_rfl) (fun t u h => r02_PrintF_tr t.1 (h _ List.mem_cons_self) (h _ (List.mem_cons_of_mem _ List.mem_cons_self)))
noncomputable def E_r02_PrintLabels : Env := envOf (P := Tryd.prog) [r02_RightLabels_fact] [] [] ckf
def r02_PrintLabelsLF  : List XLabel → ByteArray → Nat → ByteArray
  | [], v1, i => v1
  | o :: r, v1, i => cond (decide ((i : Int) > (0 : Int)))
    (r02_PrintLabelsLF r ((v1 ++ (⟨#[44]⟩ : ByteArray)) ++ (((o.key) ++ (⟨#[61]⟩ : ByteArray)) ++ (o.value))) (i + 1))
    (r02_PrintLabelsLF r (v1 ++ (((o.key) ++ (⟨#[61]⟩ : ByteArray)) ++ (o.value))) (i + 1))
def r02_PrintLabelsLS (a0 : List XLabel) (v1 : ByteArray) (i : Nat) : St :=
  ⟨slots 34 [(0, .coll ⟨.label, a0⟩), (4, .str v1), (5, .int .i64 (i : Int))], []⟩
def r02_PrintLabelsLR (a0 : List XLabel) (v1 : ByteArray) (i : Nat) : RT :=
  (.ask (decide ((i : Int) < (a0.length : Int)))
    (.ask (decide ((i : Int) > (0 : Int)))
      (.need [v1.size + (⟨#[44]⟩ : ByteArray).size ≤ 9223372036854775807]
        (.need [0 ≤ (i : Int) ∧ (i : Int) < (a0.length : Int), ((a0.getD i default).key).size + (⟨#[61]⟩ : ByteArray).size ≤ 9223372036854775807, 0 ≤ (i : Int) ∧ (i : Int) < (a0.length : Int), (((a0.getD i default).key) ++ (⟨#[61]⟩ : ByteArray)).size + ((a0.getD i default).value).size ≤ 9223372036854775807, (v1 ++ (⟨#[44]⟩ : ByteArray)).size + ((((a0.getD i default).key) ++ (⟨#[61]⟩ : ByteArray)) ++ ((a0.getD i default).value)).size ≤ 9223372036854775807]
          (.leaf .normal ⟨slots 34 [(0, .coll ⟨.label, a0⟩), (4, .str ((v1 ++ (⟨#[44]⟩ : ByteArray)) ++ ((((a0.getD i default).key) ++ (⟨#[61]⟩ : ByteArray)) ++ ((a0.getD i default).value)))), (5, .int .i64 (IntKind.i64.wrap ((i : Int) + (1 : Int))))], []⟩ [])))
      (.need [0 ≤ (i : Int) ∧ (i : Int) < (a0.length : Int), ((a0.getD i default).key).size + (⟨#[61]⟩ : ByteArray).size ≤ 9223372036854775807, 0 ≤ (i : Int) ∧ (i : Int) < (a0.length : Int), (((a0.getD i default).key) ++ (⟨#[61]⟩ : ByteArray)).size + ((a0.getD i default).value).size ≤ 9223372036854775807, v1.size + ((((a0.getD i default).key) ++ (⟨#[61]⟩ : ByteArray)) ++ ((a0.getD i default).value)).size ≤ 9223372036854775807]
        (.leaf .normal ⟨slots 34 [(0, .coll ⟨.label, a0⟩), (4, .str (v1 ++ ((((a0.getD i default).key) ++ (⟨#[61]⟩ : ByteArray)) ++ ((a0.getD i default).value)))), (5, .int .i64 (IntKind.i64.wrap ((i : Int) + (1 : Int))))], []⟩ [])))
    (.leaf (.exit 0) ⟨slots 34 [(4, .str v1)], []⟩ []))
def r02_PrintLabelsLT (a0 : List XLabel) (v1 : ByteArray) (i : Nat) : Tree :=
  .leaf (.exit 0) ⟨slots 34 [(4, .str (r02_PrintLabelsLF (a0.drop i) v1 i))], []⟩
theorem r02_PrintLabelsL_loop (a0 : List XLabel) (hp0 : a0.length ≤ 4294967296) (hp1 : ∀ q ∈ a0, q.Fine) (hlen : a0.length < 4611686018427387904) (hn0 : a0.length ≤ 8) (hn1 : ∀ q ∈ a0, GL q) (z : { z : ByteArray × Nat // z.2 ≤ a0.length ∧ z.1.size ≤ z.2 * 300 }) (Q : Exit → St → Prop) (h : (r02_PrintLabelsLT a0 z.1.1 z.1.2).All Q) : Tr Tryd.prog 0 (.loop (loopAt Tryd.f31 0)) (r02_PrintLabelsLS a0 z.1.1 z.1.2) Q := by
  refine Tr_loopT (kok _ _ _ _ _ _) (E := E_r02_PrintLabels) (ι := { z : ByteArray × Nat // z.2 ≤ a0.length ∧ z.1.size ≤ z.2 * 300 }) 60 0 (fun _ => noLoops) (fun z => r02_PrintLabelsLS a0 z.1.1 z.1.2) (fun z => r02_PrintLabelsLT a0 z.1.1 z.1.2) (fun z => r02_PrintLabelsLR a0 z.1.1 z.1.2) (fun z => a0.length - z.1.2) (fun _ => LoopsOk.none) (fun z => by obtain ⟨⟨v1, i⟩, hi⟩ := z; kernel_rfl) (fun z => by obtain ⟨⟨v1, i⟩, hi⟩ := z; kernel_rfl) (fun z => by obtain ⟨⟨v1, i⟩, hi⟩ := z; kernel_rfl) ?_ z Q h
  rintro ⟨⟨v1, i⟩, hi⟩ Q hT
  replace hT : (r02_PrintLabelsLT a0 v1 i).All Q := hT
  replace hi : i ≤ a0.length ∧ v1.size ≤ i * 300 := hi
  show (r02_PrintLabelsLR a0 v1 i).All _
  unfold r02_PrintLabelsLR
  refine ⟨fun h0 => ?_, fun h0 => ?_⟩
  · have hlt : i < a0.length := by simpa using h0
    have hd := drop_getD hlt
    have hw := wrap_succ (i := i) (by omega)
    refine ⟨fun h1 => ?_, fun h1 => ?_⟩
    · refine ⟨need_cons (by have hg := hn1 _ (gD_mem hlt); have hk := hg.1; have hv := hg.2; have hi9 : i * 300 ≤ 2400 := Nat.mul_le_mul_right 300 (by omega : i ≤ 8); (try simp only [ByteArray.size_append, size_mk, List.size_toArray, List.length_cons, List.length_nil]); omega) (need_nil), ?_⟩
      refine ⟨need_cons (by constructor <;> omega) (need_cons (by have hg := hn1 _ (gD_mem hlt); have hk := hg.1; have hv := hg.2; have hi9 : i * 300 ≤ 2400 := Nat.mul_le_mul_right 300 (by omega : i ≤ 8); (try simp only [ByteArray.size_append, size_mk, List.size_toArray, List.length_cons, List.length_nil]); omega) (need_cons (by constructor <;> omega) (need_cons (by have hg := hn1 _ (gD_mem hlt); have hk := hg.1; have hv := hg.2; have hi9 : i * 300 ≤ 2400 := Nat.mul_le_mul_right 300 (by omega : i ≤ 8); (try simp only [ByteArray.size_append, size_mk, List.size_toArray, List.length_cons, List.length_nil]); omega) (need_cons (by have hg := hn1 _ (gD_mem hlt); have hk := hg.1; have hv := hg.2; have hi9 : i * 300 ≤ 2400 := Nat.mul_le_mul_right 300 (by omega : i ≤ 8); (try simp only [ByteArray.size_append, size_mk, List.size_toArray, List.length_cons, List.length_nil]); omega) (need_nil))))), ?_⟩
      have hF : r02_PrintLabelsLF (a0.drop i) v1 i = r02_PrintLabelsLF (a0.drop (i + 1)) ((v1 ++ (⟨#[44]⟩ : ByteArray)) ++ ((((a0.getD i default).key) ++ (⟨#[61]⟩ : ByteArray)) ++ ((a0.getD i default).value))) (i + 1) := by rw [hd]; first | exact (cond_t h1 rfl) | simp only [r02_PrintLabelsLF, h0, h1, cond_true, cond_false]
      refine ⟨⟨((v1 ++ (⟨#[44]⟩ : ByteArray)) ++ ((((a0.getD i default).key) ++ (⟨#[61]⟩ : ByteArray)) ++ ((a0.getD i default).value)), (i + 1)), by (first | dsimp only | skip); refine ⟨by omega, ?_⟩; have hg := hn1 _ (gD_mem hlt); have hk := hg.1; have hv := hg.2; have hi9 : i * 300 ≤ 2400 := Nat.mul_le_mul_right 300 (by omega : i ≤ 8); (simp only [ByteArray.size_append, size_mk, List.size_toArray, List.length_cons, List.length_nil]); rw [Nat.add_mul]; omega⟩, by show a0.length - (i + 1) < a0.length - i; omega, ?_, ?_⟩
      · show _ = r02_PrintLabelsLS a0 ((v1 ++ (⟨#[44]⟩ : ByteArray)) ++ ((((a0.getD i default).key) ++ (⟨#[61]⟩ : ByteArray)) ++ ((a0.getD i default).value))) (i + 1)
        unfold r02_PrintLabelsLS
        simp only [hw]
      · show (r02_PrintLabelsLT a0 ((v1 ++ (⟨#[44]⟩ : ByteArray)) ++ ((((a0.getD i default).key) ++ (⟨#[61]⟩ : ByteArray)) ++ ((a0.getD i default).value))) (i + 1)).All Q
        unfold r02_PrintLabelsLT at hT ⊢
        rw [hF] at hT
        exact hT
    · refine ⟨need_cons (by constructor <;> omega) (need_cons (by have hg := hn1 _ (gD_mem hlt); have hk := hg.1; have hv := hg.2; have hi9 : i * 300 ≤ 2400 := Nat.mul_le_mul_right 300 (by omega : i ≤ 8); (try simp only [ByteArray.size_append, size_mk, List.size_toArray, List.length_cons, List.length_nil]); omega) (need_cons (by constructor <;> omega) (need_cons (by have hg := hn1 _ (gD_mem hlt); have hk := hg.1; have hv := hg.2; have hi9 : i * 300 ≤ 2400 := Nat.mul_le_mul_right 300 (by omega : i ≤ 8); (try simp only [ByteArray.size_append, size_mk, List.size_toArray, List.length_cons, List.length_nil]); omega) (need_cons (by have hg := hn1 _ (gD_mem hlt); have hk := hg.1; have hv := hg.2; have hi9 : i * 300 ≤ 2400 := Nat.mul_le_mul_right 300 (by omega : i ≤ 8); (try simp only [ByteArray.size_append, size_mk, List.size_toArray, List.length_cons, List.length_nil]); omega) (need_nil))))), ?_⟩
      have hF : r02_PrintLabelsLF (a0.drop i) v1 i = r02_PrintLabelsLF (a0.drop (i + 1)) (v1 ++ ((((a0.getD i default).key) ++ (⟨#[61]⟩ : ByteArray)) ++ ((a0.getD i default).value))) (i + 1) := by rw [hd]; first | exact (cond_f h1 rfl) | simp only [r02_PrintLabelsLF, h0, h1, cond_true, cond_false]
      refine ⟨⟨(v1 ++ ((((a0.getD i default).key) ++ (⟨#[61]⟩ : ByteArray)) ++ ((a0.getD i default).value)), (i + 1)), by (first | dsimp only | skip); refine ⟨by omega, ?_⟩; have hg := hn1 _ (gD_mem hlt); have hk := hg.1; have hv := hg.2; have hi9 : i * 300 ≤ 2400 := Nat.mul_le_mul_right 300 (by omega : i ≤ 8); (simp only [ByteArray.size_append, size_mk, List.size_toArray, List.length_cons, List.length_nil]); rw [Nat.add_mul]; omega⟩, by show a0.length - (i + 1) < a0.length - i; omega, ?_, ?_⟩
      · show _ = r02_PrintLabelsLS a0 (v1 ++ ((((a0.getD i default).key) ++ (⟨#[61]⟩ : ByteArray)) ++ ((a0.getD i default).value))) (i + 1)
        unfold r02_PrintLabelsLS
        simp only [hw]
      · show (r02_PrintLabelsLT a0 (v1 ++ ((((a0.getD i default).key) ++ (⟨#[61]⟩ : ByteArray)) ++ ((a0.getD i default).value))) (i + 1)).All Q
        unfold r02_PrintLabelsLT at hT ⊢
        rw [hF] at hT
        exact hT
  · have hge : ¬ i < a0.length := by simpa using h0
    have hd : a0.drop i = [] := List.drop_eq_nil_of_le (by omega)
    have hF : r02_PrintLabelsLF (a0.drop i) v1 i = v1 := by rw [hd]; first | exact rfl | simp only [r02_PrintLabelsLF, h0, cond_true, cond_false]
    unfold r02_PrintLabelsLT at hT
    rw [hF] at hT
    exact hT
def r02_PrintLabelsF (a0 : List XLabel) : ByteArray × Int :=
  cond (!(r02_RightLabelsF a0))
    ((⟨#[]⟩ : ByteArray), (2 : Int))
    (r02_PrintLabelsLF a0 (⟨#[]⟩ : ByteArray) 0, (0 : Int))
def r02_PrintLabelsR (a0 : List XLabel) : RT :=
  (.need [a0.length ≤ 4294967296, ∀ q ∈ a0, q.Fine]
    (.ask (!(r02_RightLabelsF a0))
      (.leaf .ret ⟨slots 34 [(2, .str (⟨#[]⟩ : ByteArray)), (3, .int .i64 2)], []⟩ [])
      (.need [a0.length ≤ 8, ∀ q ∈ a0, GL q]
        (.leaf .ret ⟨slots 34 [(2, .str (r02_PrintLabelsLF a0 (⟨#[]⟩ : ByteArray) 0)), (3, .int .i64 0)], []⟩ []))))
theorem r02_PrintLabelsF_tr (a0 : List XLabel) (hp0 : a0.length ≤ 4294967296) (hp1 : ∀ q ∈ a0, q.Fine) : Tr Tryd.prog 0 (bodyOf Tryd.f31) (fnBegins Tryd.f31 [.coll ⟨.label, a0⟩] []) (fnEnds Tryd.prog Tryd.f31 (.tup [.str ((r02_PrintLabelsF a0).1), .int .i64 ((r02_PrintLabelsF a0).2)]) []) := by
  refine Tr_tree (kok _ _ _ _ _ _) (E := E_r02_PrintLabels) (L := (loopsOf [(0, r02_PrintLabelsLS a0 (⟨#[]⟩ : ByteArray) 0, [], .need [a0.length ≤ 8, ∀ q ∈ a0, GL q] (r02_PrintLabelsLT a0 (⟨#[]⟩ : ByteArray) 0))])) 60 9999 (LoopsOk.one (g := loopAt Tryd.f31 0) (b := 0) (by kernel_rfl) (by kernel_rfl) (by kernel_rfl) (by kernel_rfl) (fun Q h => r02_PrintLabelsL_loop a0 hp0 hp1 (by omega) (h.1 _ List.mem_cons_self) (h.1 _ (List.mem_cons_of_mem _ List.mem_cons_self)) ⟨((⟨#[]⟩ : ByteArray), 0), ⟨Nat.zero_le _, Nat.zero_le _⟩⟩ Q h.2)) (r02_PrintLabelsR a0) (by kernel_rfl) (by kernel_rfl) (by kernel_rfl) ?_
  unfold r02_PrintLabelsR
  refine ⟨need_cons (by omega) (need_cons (by assumption) (need_nil)), ?_⟩
  refine ⟨fun h0 => ?_, fun h0 => ?_⟩
  · have hF : r02_PrintLabelsF a0 = ((⟨#[]⟩ : ByteArray), (2 : Int)) := by first | exact (cond_t h0 rfl) | simp only [r02_PrintLabelsF, h0, cond_true, cond_false]
    exact ⟨trivial, .inl (by first | (rw [hF]; kernel_rfl) | kernel_rfl), by first | (rw [hF]; kernel_rfl) | kernel_rfl⟩
  · refine ⟨need_cons (by simp only [Bool.not_eq_false'] at h0; exact ((r02_RightLabels_iff a0 hp0).1 h0).2.2) (need_cons (by simp only [Bool.not_eq_false'] at h0; exact ((r02_RightLabels_iff a0 hp0).1 h0).gl) (need_nil)), ?_⟩
    have hF : r02_PrintLabelsF a0 = (r02_PrintLabelsLF a0 (⟨#[]⟩ : ByteArray) 0, (0 : Int)) := by first | exact (cond_f h0 rfl) | simp only [r02_PrintLabelsF, h0, cond_true, cond_false]
    exact ⟨trivial, .inl (by first | (rw [hF]; kernel_rfl) | kernel_rfl), by first | (rw [hF]; kernel_rfl) | kernel_rfl⟩
noncomputable def r02_PrintLabels_fact : Fact Tryd.prog := factOf 31 Tryd.f31 (by kernel_rfl) rfl (by kernel_rfl) [.c (.coll .label)] [] true (fun t u => .tup [.str ((r02_PrintLabelsF t.1).1), .int .i64 ((r02_PrintLabelsF t.1).2)]) (fun t u => []) (fun t u => [t.1.length ≤ 4294967296, ∀ q ∈ t.1, q.Fine])
  (fun _ _ _ => rfl) (fun t u => by kernel_rfl) (fun t u => by kernel_rfl) (fun t u h => r02_PrintLabelsF_tr t.1 (h _ List.mem_cons_self) (h _ (List.mem_cons_of_mem _ List.mem_cons_self)))
end Go.Proofs.YtbjlmmeabonbpaaDoor
