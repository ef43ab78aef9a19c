/- Topo. -/
import Derived.Test.YtbjlmmeabonbpaaDoorDH2
set_option linter.unusedVariables false
set_option linter.unusedSimpArgs false
set_option maxRecDepth 100000
namespace Go.Proofs.YtbjlmmeabonbpaaDoor
open Go Go.Eng
noncomputable def E_topo_Print_1 : Env := envOf (P := Tryd.prog) [joinB_fact] [] [] ckf
def topo_Print_1F (a0_0 : ByteArray) (a0_1 : List ByteArray) : ByteArray :=
  (a0_0 ++ (⟨#[61]⟩ : ByteArray)) ++ (joinB a0_1 (⟨#[124]⟩ : ByteArray))
def topo_Print_1R (a0_0 : ByteArray) (a0_1 : List ByteArray) : RT :=
  (.need [a0_0.size + (⟨#[61]⟩ : ByteArray).size ≤ 9223372036854775807, a0_1.length ≤ 4294967296, (joinB a0_1 (⟨#[124]⟩ : ByteArray)).size ≤ 4294967296, (a0_0 ++ (⟨#[61]⟩ : ByteArray)).size + (joinB a0_1 (⟨#[124]⟩ : ByteArray)).size ≤ 9223372036854775807]
    (.leaf .ret ⟨slots 10 [(2, .str ((a0_0 ++ (⟨#[61]⟩ : ByteArray)) ++ (joinB a0_1 (⟨#[124]⟩ : ByteArray))))], []⟩ []))
theorem topo_Print_1F_tr (a0_0 : ByteArray) (a0_1 : List ByteArray) (hp0 : a0_0.size ≤ 24) (hp1 : a0_1.length ≤ 8) (hp2 : ∀ q ∈ a0_1, q.size ≤ 24) : Tr Tryd.prog 0 (bodyOf Tryd.f53) (fnBegins Tryd.f53 [.agg [.str a0_0, .coll ⟨.str, a0_1⟩]] []) (fnEnds Tryd.prog Tryd.f53 (.str (topo_Print_1F a0_0 a0_1)) []) := by
  refine Tr_tree (kok _ _ _ _ _ _) (E := E_topo_Print_1) (L := noLoops) 60 9999 LoopsOk.none (topo_Print_1R a0_0 a0_1) (by kernel_rfl) (by kernel_rfl) (by kernel_rfl) ?_
  unfold topo_Print_1R
  refine ⟨need_cons (by (try simp only [ByteArray.size_append, size_mk, List.size_toArray, List.length_cons, List.length_nil]); omega) (need_cons (by omega) (need_cons (by have h9 := joinB_size (⟨#[124]⟩ : ByteArray) rfl 24 a0_1 hp2; omega) (need_cons (by have h9 := joinB_size (⟨#[124]⟩ : ByteArray) rfl 24 a0_1 hp2; (try simp only [ByteArray.size_append, size_mk, List.size_toArray, List.length_cons, List.length_nil]); omega) (need_nil)))), ?_⟩
  exact ⟨trivial, .inl (by kernel_rfl), by kernel_rfl⟩
noncomputable def topo_Print_1_fact : Fact Tryd.prog := factOf 53 Tryd.f53 (by kernel_rfl) rfl (by kernel_rfl) [.agg [.str, .coll .str]] [] true (fun t u => .str (topo_Print_1F t.1.1 t.1.2.1)) (fun t u => []) (fun t u => [t.1.1.size ≤ 24, t.1.2.1.length ≤ 8, ∀ q ∈ t.1.2.1, q.size ≤ 24])
  (fun _ _ _ => rfl) (fun t u => by kernel_rfl) (fun t u => by kernel_rfl) (fun t u h => topo_Print_1F_tr t.1.1 t.1.2.1 (h _ List.mem_cons_self) (h _ (List.mem_cons_of_mem _ List.mem_cons_self)) (h _ (List.mem_cons_of_mem _ (List.mem_cons_of_mem _ List.mem_cons_self))))
noncomputable def E_topo_Term_5 : Env := envOf (P := Tryd.prog) [topo_Print_1_fact] [] [] ckf
def topo_Term_5LF  : List XTerm → List ByteArray → List ByteArray
  | [], v3 => v3
  | o :: r, v3 => topo_Term_5LF r (v3 ++ [topo_Print_1F (o.key) (o.values)])
def topo_Term_5LS (a0 : List XTerm) (i : Nat) (v3 : List ByteArray) : St :=
  ⟨slots 25 [(1, .fn 53 []), (5, .vec 0), (11, .coll ⟨.term, a0⟩), (12, .int .i64 (a0.length : Int)), (13, .int .i64 (i : Int))], [.vec true ⟨.str, v3⟩]⟩
def topo_Term_5LR (a0 : List XTerm) (i : Nat) (v3 : List ByteArray) : RT :=
  (.ask (decide ((i : Int) < (a0.length : Int)))
    (.need [0 ≤ (i : Int) ∧ (i : Int) < (a0.length : Int)]
      (.need [((a0.getD i default).key).size ≤ 24, ((a0.getD i default).values).length ≤ 8, ∀ q ∈ ((a0.getD i default).values), q.size ≤ 24]
        (.need [(v3.length + [topo_Print_1F ((a0.getD i default).key) ((a0.getD i default).values)].length) * 16 ≤ bytesLim ∧ v3.length + [topo_Print_1F ((a0.getD i default).key) ((a0.getD i default).values)].length ≤ maxLen]
          (.leaf .normal ⟨slots 25 [(1, .fn 53 []), (5, .vec 0), (11, .coll ⟨.term, a0⟩), (12, .int .i64 (a0.length : Int)), (13, .int .i64 (IntKind.i64.wrap ((i : Int) + (1 : Int))))], [.vec true ⟨.str, (v3 ++ [topo_Print_1F ((a0.getD i default).key) ((a0.getD i default).values)])⟩]⟩ [3]))))
    (.leaf (.exit 0) ⟨slots 25 [(5, .vec 0)], [.vec true ⟨.str, v3⟩]⟩ []))
def topo_Term_5LT (a0 : List XTerm) (i : Nat) (v3 : List ByteArray) : Tree :=
  .leaf (.exit 0) ⟨slots 25 [(5, .vec 0)], [.vec true ⟨.str, topo_Term_5LF (a0.drop i) v3⟩]⟩
theorem topo_Term_5L_loop (a0 : List XTerm) (hp0 : a0.length ≤ 4294967296) (hp1 : ∀ q ∈ a0, GT q) (hlen : a0.length < 4611686018427387904) (z : { z : Nat × List ByteArray // z.1 ≤ a0.length ∧ z.2.length ≤ z.1 }) (Q : Exit → St → Prop) (h : (topo_Term_5LT a0 z.1.1 z.1.2).All Q) : Tr Tryd.prog 0 (.loop (loopAt Tryd.f52 0)) (topo_Term_5LS a0 z.1.1 z.1.2) Q := by
  refine Tr_loopT (kok _ _ _ _ _ _) (E := E_topo_Term_5) (ι := { z : Nat × List ByteArray // z.1 ≤ a0.length ∧ z.2.length ≤ z.1 }) 60 0 (fun _ => noLoops) (fun z => topo_Term_5LS a0 z.1.1 z.1.2) (fun z => topo_Term_5LT a0 z.1.1 z.1.2) (fun z => topo_Term_5LR a0 z.1.1 z.1.2) (fun z => a0.length - z.1.1) (fun _ => LoopsOk.none) (fun z => by obtain ⟨⟨i, v3⟩, hi⟩ := z; kernel_rfl) (fun z => by obtain ⟨⟨i, v3⟩, hi⟩ := z; kernel_rfl) (fun z => by obtain ⟨⟨i, v3⟩, hi⟩ := z; kernel_rfl) ?_ z Q h
  rintro ⟨⟨i, v3⟩, hi⟩ Q hT
  replace hT : (topo_Term_5LT a0 i v3).All Q := hT
  replace hi : i ≤ a0.length ∧ v3.length ≤ i := hi
  show (topo_Term_5LR a0 i v3).All _
  unfold topo_Term_5LR
  refine ⟨fun h0 => ?_, fun h0 => ?_⟩
  · have hlt : i < a0.length := by simpa using h0
    have hd := drop_getD hlt
    have hw := wrap_succ (i := i) (by omega)
    refine ⟨need_cons (by first | assumption | omega | (intro; omega) | (simp only [decide_eq_true_eq, decide_eq_false_iff_not, Bool.cond_false_right, Bool.cond_true_right, Bool.cond_true_left, Bool.cond_false_left, Bool.and_eq_true, Bool.or_eq_true, Bool.not_eq_true', bytesLim, maxLen, List.length_cons, List.length_nil, List.length_append, byteSize_lit] at *; omega) | (intro; simp only [decide_eq_true_eq, decide_eq_false_iff_not, Bool.cond_false_right, Bool.cond_true_right, Bool.cond_true_left, Bool.cond_false_left, Bool.and_eq_true, Bool.or_eq_true, Bool.not_eq_true', bytesLim, maxLen, List.length_cons, List.length_nil, List.length_append, byteSize_lit] at *; omega)) (need_nil), ?_⟩
    refine ⟨need_cons (by first | exact (hp1 _ (gD_mem hlt)).1 | exact (hp1 _ (gD_mem hlt)).2.2) (need_cons (by exact (hp1 _ (gD_mem hlt)).2.1) (need_cons (by first | exact (hp1 _ (gD_mem hlt)).1 | exact (hp1 _ (gD_mem hlt)).2.2) (need_nil))), ?_⟩
    refine ⟨need_cons (by unfold bytesLim maxLen; simp only [List.length_cons, List.length_nil]; omega) (need_nil), ?_⟩
    have hF : topo_Term_5LF (a0.drop i) v3 = topo_Term_5LF (a0.drop (i + 1)) (v3 ++ [topo_Print_1F ((a0.getD i default).key) ((a0.getD i default).values)]) := by rw [hd]; first | exact rfl | simp only [topo_Term_5LF, h0, cond_true, cond_false]
    refine ⟨⟨((i + 1), (v3 ++ [topo_Print_1F ((a0.getD i default).key) ((a0.getD i default).values)])), by (first | dsimp only | skip); constructor <;> (try simp only [List.length_append, List.length_cons, List.length_nil]) <;> omega⟩, by show a0.length - (i + 1) < a0.length - i; omega, ?_, ?_⟩
    · show _ = topo_Term_5LS a0 (i + 1) (v3 ++ [topo_Print_1F ((a0.getD i default).key) ((a0.getD i default).values)])
      unfold topo_Term_5LS
      simp only [hw]
    · show (topo_Term_5LT a0 (i + 1) (v3 ++ [topo_Print_1F ((a0.getD i default).key) ((a0.getD i default).values)])).All Q
      unfold topo_Term_5LT at hT ⊢
      rw [hF] at hT
      exact hT
  · have hge : ¬ i < a0.length := by simpa using h0
    have hd : a0.drop i = [] := List.drop_eq_nil_of_le (by omega)
    have hF : topo_Term_5LF (a0.drop i) v3 = v3 := by rw [hd]; first | exact rfl | simp only [topo_Term_5LF, h0, cond_true, cond_false]
    unfold topo_Term_5LT at hT
    rw [hF] at hT
    exact hT
def topo_Term_5F (a0 : List XTerm) : List ByteArray :=
  topo_Term_5LF a0 []
def topo_Term_5R (a0 : List XTerm) : RT :=
  (.need [0 ≤ (0 : Int) ∧ (0 : Int) ≤ (a0.length : Int) ∧ (a0.length : Int) * 16 ≤ 281474976710656 ∧ (a0.length : Int) ≤ 9223372036854775807]
    (.leaf .ret ⟨slots 25 [(4, .vec 0)], [.vec true ⟨.str, topo_Term_5LF a0 []⟩]⟩ []))
theorem topo_Term_5F_tr (a0 : List XTerm) (hp0 : a0.length ≤ 4294967296) (hp1 : ∀ q ∈ a0, GT q) : Tr Tryd.prog 0 (bodyOf Tryd.f52) (fnBegins Tryd.f52 [.coll ⟨.term, a0⟩, .fn 53 []] []) (fnEnds Tryd.prog Tryd.f52 (.vec 0) [.vec true ⟨.str, topo_Term_5F a0⟩]) := by
  refine Tr_tree (kok _ _ _ _ _ _) (E := E_topo_Term_5) (L := (loopsOf [(0, topo_Term_5LS a0 0 [], [1], topo_Term_5LT a0 0 [])])) 60 9999 (LoopsOk.one (g := loopAt Tryd.f52 0) (b := 0) (by kernel_rfl) (by kernel_rfl) (by kernel_rfl) (by kernel_rfl) (fun Q h => topo_Term_5L_loop a0 hp0 hp1 (by omega) ⟨(0, []), ⟨Nat.zero_le _, Nat.le_refl _⟩⟩ Q h)) (topo_Term_5R a0) (by kernel_rfl) (by kernel_rfl) (by kernel_rfl) ?_
  unfold topo_Term_5R
  refine ⟨need_cons (by omega) (need_nil), ?_⟩
  exact ⟨trivial, .inl (by kernel_rfl), by kernel_rfl⟩
noncomputable def topo_Term_5_fact : Fact Tryd.prog := factOf 52 Tryd.f52 (by kernel_rfl) rfl (by kernel_rfl) [.c (.coll .term), .c (.fn 53)] [] false (fun t u => .vec 0) (fun t u => [.vec true ⟨.str, topo_Term_5F t.1⟩]) (fun t u => [t.1.length ≤ 4294967296, ∀ q ∈ t.1, GT q])
  (nofun) (fun t u => by kernel_rfl) (fun t u => by kernel_rfl) (fun t u h => topo_Term_5F_tr t.1 (h _ List.mem_cons_self) (h _ (List.mem_cons_of_mem _ List.mem_cons_self)))
noncomputable def E_topo_Print : Env := envOf (P := Tryd.prog) [topo_right_fact, topo_Term_5_fact, joinB_fact] [] [] ckf
theorem topo_Term_5LF_eq : ∀ (l : List XTerm) (v : List ByteArray), topo_Term_5LF l v = v ++ l.map (fun t => topo_Print_1F t.key t.values)
  | [], v => by unfold topo_Term_5LF; simp
  | o :: r, v => by
    unfold topo_Term_5LF
    rw [topo_Term_5LF_eq r]
    simp
theorem printT_eq (l : List XTerm) : topo_Term_5F l = l.map (fun t => topo_Print_1F t.key t.values) := by
  unfold topo_Term_5F
  rw [topo_Term_5LF_eq]
  rfl
theorem print_size (l : List XTerm) (h : RightT l) : (joinB (topo_Term_5F l) (⟨#[44]⟩ : ByteArray)).size ≤ 2408 := by
  rw [printT_eq]
  have h1 := joinB_size (⟨#[44]⟩ : ByteArray) rfl 300 (l.map (fun t => topo_Print_1F t.key t.values)) (fun q hq => by
    obtain ⟨t, ht, rfl⟩ := List.mem_map.1 hq
    have hg := h.gt t ht
    have h2 := joinB_size (⟨#[124]⟩ : ByteArray) rfl 24 t.values hg.2.2
    have h3 := hg.1
    have h4 := hg.2.1
    unfold topo_Print_1F
    simp only [ByteArray.size_append, size_mk, List.size_toArray, List.length_cons, List.length_nil]
    omega)
  rw [List.length_map] at h1
  have h5 : l.length * (300 + 1) ≤ 8 * (300 + 1) := Nat.mul_le_mul_right _ h.2.2
  omega
def topo_PrintF (a0 : List XTerm) : ByteArray × Int :=
  cond (!(topo_rightF a0))
    ((⟨#[]⟩ : ByteArray), (2 : Int))
    (joinB (topo_Term_5F a0) (⟨#[44]⟩ : ByteArray), (0 : Int))
def topo_PrintR (a0 : List XTerm) : RT :=
  (.need [a0.length ≤ 4294967296, ∀ q ∈ a0, q.Fine]
    (.ask (!(topo_rightF a0))
      (.leaf .ret ⟨slots 10 [(2, .str (⟨#[]⟩ : ByteArray)), (3, .int .i64 2)], []⟩ [])
      (.need [a0.length ≤ 4294967296, ∀ q ∈ a0, GT q]
        (.need [(topo_Term_5F a0).length ≤ 4294967296, (joinB (topo_Term_5F a0) (⟨#[44]⟩ : ByteArray)).size ≤ 4294967296]
          (.leaf .ret ⟨slots 10 [(2, .str (joinB (topo_Term_5F a0) (⟨#[44]⟩ : ByteArray))), (3, .int .i64 0)], []⟩ [])))))
theorem topo_PrintF_tr (a0 : List XTerm) (hp0 : a0.length ≤ 4294967296) (hp1 : ∀ q ∈ a0, q.Fine) : Tr Tryd.prog 0 (bodyOf Tryd.f28) (fnBegins Tryd.f28 [.coll ⟨.term, a0⟩] []) (fnEnds Tryd.prog Tryd.f28 (.tup [.str ((topo_PrintF a0).1), .int .i64 ((topo_PrintF a0).2)]) []) := by
  refine Tr_tree (kok _ _ _ _ _ _) (E := E_topo_Print) (L := noLoops) 60 9999 LoopsOk.none (topo_PrintR a0) (by kernel_rfl) (by kernel_rfl) (by kernel_rfl) ?_
  unfold topo_PrintR
  refine ⟨need_cons (by assumption) (need_cons (by assumption) (need_nil)), ?_⟩
  refine ⟨fun h0 => ?_, fun h0 => ?_⟩
  · have hF : topo_PrintF a0 = ((⟨#[]⟩ : ByteArray), (2 : Int)) := by first | exact (cond_t h0 rfl) | simp only [topo_PrintF, h0, cond_true, cond_false]
    exact ⟨trivial, .inl (by first | (rw [hF]; kernel_rfl) | kernel_rfl), by first | (rw [hF]; kernel_rfl) | kernel_rfl⟩
  · refine ⟨need_cons (by assumption) (need_cons (by simp only [Bool.not_eq_false'] at h0; exact ((right_iff a0 hp0 hp1).1 h0).gt) (need_nil)), ?_⟩
    refine ⟨need_cons (by rw [printT_eq, List.length_map]; assumption) (need_cons (by simp only [Bool.not_eq_false'] at h0; exact Nat.le_trans (print_size a0 ((right_iff a0 hp0 hp1).1 h0)) (by decide)) (need_nil)), ?_⟩
    have hF : topo_PrintF a0 = (joinB (topo_Term_5F a0) (⟨#[44]⟩ : ByteArray), (0 : Int)) := by first | exact (cond_f h0 rfl) | simp only [topo_PrintF, h0, cond_true, cond_false]
    exact ⟨trivial, .inl (by first | (rw [hF]; kernel_rfl) | kernel_rfl), by first | (rw [hF]; kernel_rfl) | kernel_rfl⟩
noncomputable def topo_Print_fact : Fact Tryd.prog := factOf 28 Tryd.f28 (by kernel_rfl) rfl (by kernel_rfl) [.c (.coll .term)] [] true (fun t u => .tup [.str ((topo_PrintF t.1).1), .int .i64 ((topo_PrintF t.1).2)]) (fun t u => []) (fun t u => [t.1.length ≤ 4294967296, ∀ q ∈ t.1, q.Fine])
  (fun _ _ _ => rfl) (fun t u => by kernel_rfl) (fun t u => by kernel_rfl) (fun t u h => topo_PrintF_tr t.1 (h _ List.mem_cons_self) (h _ (List.mem_cons_of_mem _ List.mem_cons_self)))
end Go.Proofs.YtbjlmmeabonbpaaDoor
