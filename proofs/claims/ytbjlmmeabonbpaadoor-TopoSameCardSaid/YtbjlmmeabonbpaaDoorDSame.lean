/- Topo: the same. -/
import Derived.Test.YtbjlmmeabonbpaaDoorDWord
set_option linter.unusedVariables false
set_option linter.unusedSimpArgs false
set_option maxRecDepth 100000
namespace Go.Proofs.YtbjlmmeabonbpaaDoor
open Go Go.Eng
noncomputable def E_slices_Equal_string_string : Env := envOf (P := Tryd.prog) [] [] [] ckf
def slices_Equal_string_stringLF (a1 : List ByteArray) : List ByteArray → Nat → Bool
  | [], i => false
  | o :: r, i => cond (!(decide (o = (a1.getD i default))))
    true
    (slices_Equal_string_stringLF a1 r (i + 1))
def slices_Equal_string_stringLS (a0 : List ByteArray) (a1 : List ByteArray) (i : Nat) : St :=
  ⟨slots 26 [(0, .coll ⟨.str, a0⟩), (1, .coll ⟨.str, a1⟩), (12, .int .i64 (a0.length : Int)), (13, .int .i64 (i : Int))], []⟩
def slices_Equal_string_stringLR (a0 : List ByteArray) (a1 : List ByteArray) (i : Nat) : RT :=
  (.ask (decide ((i : Int) < (a0.length : Int)))
    (.need [0 ≤ (i : Int) ∧ (i : Int) < (a0.length : Int), 0 ≤ (i : Int) ∧ (i : Int) < (a1.length : Int)]
      (.ask (!(decide ((a0.getD i default) = (a1.getD i default))))
        (.leaf .ret ⟨slots 26 [(4, .bool false)], []⟩ [])
        (.leaf .normal ⟨slots 26 [(0, .coll ⟨.str, a0⟩), (1, .coll ⟨.str, a1⟩), (12, .int .i64 (a0.length : Int)), (13, .int .i64 (IntKind.i64.wrap ((i : Int) + (1 : Int))))], []⟩ [])))
    (.leaf (.exit 0) ⟨slots 26 [], []⟩ []))
def slices_Equal_string_stringLT (a0 : List ByteArray) (a1 : List ByteArray) (i : Nat) : Tree :=
  .ask (slices_Equal_string_stringLF a1 (a0.drop i) i) (.leaf .ret ⟨slots 26 [(4, .bool false)], []⟩) (.leaf (.exit 0) ⟨slots 26 [], []⟩)
theorem slices_Equal_string_stringL_loop (a0 : List ByteArray) (a1 : List ByteArray) (hp0 : a0.length < 4611686018427387904) (hlen : a0.length < 4611686018427387904) (hn0 : a0.length = a1.length) (z : { z : Nat // z ≤ a0.length }) (Q : Exit → St → Prop) (h : (slices_Equal_string_stringLT a0 a1 z.1).All Q) : Tr Tryd.prog 0 (.loop (loopAt Tryd.f49 0)) (slices_Equal_string_stringLS a0 a1 z.1) Q := by
  refine Tr_loopT (kok _ _ _ _ _ _) (E := E_slices_Equal_string_string) (ι := { z : Nat // z ≤ a0.length }) 60 0 (fun _ => noLoops) (fun z => slices_Equal_string_stringLS a0 a1 z.1) (fun z => slices_Equal_string_stringLT a0 a1 z.1) (fun z => slices_Equal_string_stringLR a0 a1 z.1) (fun z => a0.length - z.1) (fun _ => LoopsOk.none) (fun z => by obtain ⟨i, hi⟩ := z; kernel_rfl) (fun z => by obtain ⟨i, hi⟩ := z; kernel_rfl) (fun z => by obtain ⟨i, hi⟩ := z; kernel_rfl) ?_ z Q h
  rintro ⟨i, hi⟩ Q hT
  replace hT : (slices_Equal_string_stringLT a0 a1 i).All Q := hT
  replace hi : i ≤ a0.length := hi
  show (slices_Equal_string_stringLR a0 a1 i).All _
  unfold slices_Equal_string_stringLR
  refine ⟨fun h0 => ?_, fun h0 => ?_⟩
  · have hlt : i < a0.length := by simpa using h0
    have hd := drop_getD hlt
    have hw := wrap_succ (i := i) (by omega)
    refine ⟨need_cons (by first | assumption | omega | (intro; omega) | (simp only [decide_eq_true_eq, decide_eq_false_iff_not, Bool.cond_false_right, Bool.cond_true_right, Bool.cond_true_left, Bool.cond_false_left, Bool.and_eq_true, Bool.or_eq_true, Bool.not_eq_true', bytesLim, maxLen, List.length_cons, List.length_nil, List.length_append, byteSize_lit] at *; omega) | (intro; simp only [decide_eq_true_eq, decide_eq_false_iff_not, Bool.cond_false_right, Bool.cond_true_right, Bool.cond_true_left, Bool.cond_false_left, Bool.and_eq_true, Bool.or_eq_true, Bool.not_eq_true', bytesLim, maxLen, List.length_cons, List.length_nil, List.length_append, byteSize_lit] at *; omega)) (need_cons (by first | assumption | omega | (intro; omega) | (simp only [decide_eq_true_eq, decide_eq_false_iff_not, Bool.cond_false_right, Bool.cond_true_right, Bool.cond_true_left, Bool.cond_false_left, Bool.and_eq_true, Bool.or_eq_true, Bool.not_eq_true', bytesLim, maxLen, List.length_cons, List.length_nil, List.length_append, byteSize_lit] at *; omega) | (intro; simp only [decide_eq_true_eq, decide_eq_false_iff_not, Bool.cond_false_right, Bool.cond_true_right, Bool.cond_true_left, Bool.cond_false_left, Bool.and_eq_true, Bool.or_eq_true, Bool.not_eq_true', bytesLim, maxLen, List.length_cons, List.length_nil, List.length_append, byteSize_lit] at *; omega)) (need_nil)), ?_⟩
    refine ⟨fun h1 => ?_, fun h1 => ?_⟩
    · have hF : slices_Equal_string_stringLF a1 (a0.drop i) i = true := by rw [hd]; first | exact (cond_t h1 rfl) | simp only [slices_Equal_string_stringLF, h0, h1, cond_true, cond_false]
      unfold slices_Equal_string_stringLT at hT
      rw [hF] at hT
      exact hT.1 rfl
    · have hF : slices_Equal_string_stringLF a1 (a0.drop i) i = slices_Equal_string_stringLF a1 (a0.drop (i + 1)) (i + 1) := by rw [hd]; first | exact (cond_f h1 rfl) | simp only [slices_Equal_string_stringLF, h0, h1, cond_true, cond_false]
      refine ⟨⟨(i + 1), by show (i + 1) ≤ a0.length; omega⟩, by show a0.length - (i + 1) < a0.length - i; omega, ?_, ?_⟩
      · show _ = slices_Equal_string_stringLS a0 a1 (i + 1)
        unfold slices_Equal_string_stringLS
        simp only [hw]
      · show (slices_Equal_string_stringLT a0 a1 (i + 1)).All Q
        unfold slices_Equal_string_stringLT at hT ⊢
        rw [hF] at hT
        exact hT
  · have hge : ¬ i < a0.length := by simpa using h0
    have hd : a0.drop i = [] := List.drop_eq_nil_of_le (by omega)
    have hF : slices_Equal_string_stringLF a1 (a0.drop i) i = false := by rw [hd]; first | exact rfl | simp only [slices_Equal_string_stringLF, h0, cond_true, cond_false]
    unfold slices_Equal_string_stringLT at hT
    rw [hF] at hT
    exact hT.2 rfl
def slices_Equal_string_stringF (a0 : List ByteArray) (a1 : List ByteArray) : Bool :=
  cond (!((a0.length : Int) == (a1.length : Int)))
    false
    (cond (slices_Equal_string_stringLF a1 a0 0)
      false
      true)
def slices_Equal_string_stringR (a0 : List ByteArray) (a1 : List ByteArray) : RT :=
  (.ask (!((a0.length : Int) == (a1.length : Int)))
    (.leaf .ret ⟨slots 26 [(4, .bool false)], []⟩ [])
    (.need [a0.length = a1.length]
      (.ask (slices_Equal_string_stringLF a1 a0 0)
        (.leaf .ret ⟨slots 26 [(4, .bool false)], []⟩ [])
        (.leaf .ret ⟨slots 26 [(4, .bool true)], []⟩ []))))
theorem slices_Equal_string_stringF_tr (a0 : List ByteArray) (a1 : List ByteArray) (hp0 : a0.length < 4611686018427387904) : Tr Tryd.prog 0 (bodyOf Tryd.f49) (fnBegins Tryd.f49 [.coll ⟨.str, a0⟩, .coll ⟨.str, a1⟩] []) (fnEnds Tryd.prog Tryd.f49 (.bool (slices_Equal_string_stringF a0 a1)) []) := by
  refine Tr_tree (kok _ _ _ _ _ _) (E := E_slices_Equal_string_string) (L := (loopsOf [(0, slices_Equal_string_stringLS a0 a1 0, [], .need [a0.length = a1.length] (slices_Equal_string_stringLT a0 a1 0))])) 60 9999 (LoopsOk.one (g := loopAt Tryd.f49 0) (b := 0) (by kernel_rfl) (by kernel_rfl) (by kernel_rfl) (by kernel_rfl) (fun Q h => slices_Equal_string_stringL_loop a0 a1 hp0 (by omega) (h.1 _ List.mem_cons_self) ⟨0, by first | exact Nat.zero_le _ | (show 0 ≤ a0.length; omega) | (show 0 ≤ a0.length; exact ⟨Nat.zero_le _, by assumption⟩) | (show 0 ≤ a0.length; simp)⟩ Q h.2)) (slices_Equal_string_stringR a0 a1) (by kernel_rfl) (by kernel_rfl) (by kernel_rfl) ?_
  unfold slices_Equal_string_stringR
  refine ⟨fun h0 => ?_, fun h0 => ?_⟩
  · have hF : slices_Equal_string_stringF a0 a1 = false := by first | exact (cond_t h0 rfl) | simp only [slices_Equal_string_stringF, h0, cond_true, cond_false]
    exact ⟨trivial, .inl (by first | (rw [hF]; kernel_rfl) | kernel_rfl), by first | (rw [hF]; kernel_rfl) | kernel_rfl⟩
  · refine ⟨need_cons (by have h9 := h0; simp only [Bool.not_eq_false', decide_eq_true_eq, beq_iff_eq] at h9; omega) (need_nil), ?_⟩
    refine ⟨fun h1 => ?_, fun h1 => ?_⟩
    · have hF : slices_Equal_string_stringF a0 a1 = false := by first | exact (cond_f h0 (cond_t h1 rfl)) | simp only [slices_Equal_string_stringF, h0, h1, cond_true, cond_false]
      exact ⟨trivial, .inl (by first | (rw [hF]; kernel_rfl) | kernel_rfl), by first | (rw [hF]; kernel_rfl) | kernel_rfl⟩
    · have hF : slices_Equal_string_stringF a0 a1 = true := by first | exact (cond_f h0 (cond_f h1 rfl)) | simp only [slices_Equal_string_stringF, h0, h1, cond_true, cond_false]
      exact ⟨trivial, .inl (by first | (rw [hF]; kernel_rfl) | kernel_rfl), by first | (rw [hF]; kernel_rfl) | kernel_rfl⟩
noncomputable def slices_Equal_string_string_fact : Fact Tryd.prog := factOf 49 Tryd.f49 (by kernel_rfl) rfl (by kernel_rfl) [.c (.coll .str), .c (.coll .str)] [] true (fun t u => .bool (slices_Equal_string_stringF t.1 t.2.1)) (fun t u => []) (fun t u => [t.1.length < 4611686018427387904])
  (fun _ _ _ => rfl) (fun t u => by kernel_rfl) (fun t u => by kernel_rfl) (fun t u h => slices_Equal_string_stringF_tr t.1 t.2.1 (h _ List.mem_cons_self))
noncomputable def E_topo_SameTerms_1 : Env := envOf (P := Tryd.prog) [slices_Equal_string_string_fact] [] [] ckf
def topo_SameTerms_1F (a0_0 : ByteArray) (a0_1 : List ByteArray) (a1_0 : ByteArray) (a1_1 : List ByteArray) : Bool :=
  cond (decide (a0_0 = a1_0)) (slices_Equal_string_stringF a0_1 a1_1) false
def topo_SameTerms_1R (a0_0 : ByteArray) (a0_1 : List ByteArray) (a1_0 : ByteArray) (a1_1 : List ByteArray) : RT :=
  (.need [((decide (a0_0 = a1_0)) = true) → (a0_1.length < 4611686018427387904)]
    (.leaf .ret ⟨slots 17 [(4, .bool (cond (decide (a0_0 = a1_0)) (slices_Equal_string_stringF a0_1 a1_1) false))], []⟩ []))
theorem topo_SameTerms_1F_tr (a0_0 : ByteArray) (a0_1 : List ByteArray) (a1_0 : ByteArray) (a1_1 : List ByteArray) (hp0 : a0_1.length < 4611686018427387904) : Tr Tryd.prog 0 (bodyOf Tryd.f48) (fnBegins Tryd.f48 [.agg [.str a0_0, .coll ⟨.str, a0_1⟩], .agg [.str a1_0, .coll ⟨.str, a1_1⟩]] []) (fnEnds Tryd.prog Tryd.f48 (.bool (topo_SameTerms_1F a0_0 a0_1 a1_0 a1_1)) []) := by
  refine Tr_tree (kok _ _ _ _ _ _) (E := E_topo_SameTerms_1) (L := noLoops) 60 9999 LoopsOk.none (topo_SameTerms_1R a0_0 a0_1 a1_0 a1_1) (by kernel_rfl) (by kernel_rfl) (by kernel_rfl) ?_
  unfold topo_SameTerms_1R
  refine ⟨need_cons (by first | assumption | omega | (intro; omega) | (simp only [decide_eq_true_eq, decide_eq_false_iff_not, Bool.cond_false_right, Bool.cond_true_right, Bool.cond_true_left, Bool.cond_false_left, Bool.and_eq_true, Bool.or_eq_true, Bool.not_eq_true', bytesLim, maxLen, List.length_cons, List.length_nil, List.length_append, byteSize_lit] at *; omega) | (intro; simp only [decide_eq_true_eq, decide_eq_false_iff_not, Bool.cond_false_right, Bool.cond_true_right, Bool.cond_true_left, Bool.cond_false_left, Bool.and_eq_true, Bool.or_eq_true, Bool.not_eq_true', bytesLim, maxLen, List.length_cons, List.length_nil, List.length_append, byteSize_lit] at *; omega)) (need_nil), ?_⟩
  exact ⟨trivial, .inl (by kernel_rfl), by kernel_rfl⟩
noncomputable def topo_SameTerms_1_fact : Fact Tryd.prog := factOf 48 Tryd.f48 (by kernel_rfl) rfl (by kernel_rfl) [.agg [.str, .coll .str], .agg [.str, .coll .str]] [] true (fun t u => .bool (topo_SameTerms_1F t.1.1 t.1.2.1 t.2.1.1 t.2.1.2.1)) (fun t u => []) (fun t u => [t.1.2.1.length < 4611686018427387904])
  (fun _ _ _ => rfl) (fun t u => by kernel_rfl) (fun t u => by kernel_rfl) (fun t u h => topo_SameTerms_1F_tr t.1.1 t.1.2.1 t.2.1.1 t.2.1.2.1 (h _ List.mem_cons_self))
noncomputable def E_topo_Term : Env := envOf (P := Tryd.prog) [topo_SameTerms_1_fact] [] [] ckf
def topo_TermLF (a1 : List XTerm) : List XTerm → Nat → Bool
  | [], i => false
  | o :: r, i => cond (!(topo_SameTerms_1F (o.key) (o.values) ((a1.getD i default).key) ((a1.getD i default).values)))
    true
    (topo_TermLF a1 r (i + 1))
def topo_TermLS (a0 : List XTerm) (a1 : List XTerm) (i : Nat) : St :=
  ⟨slots 32 [(1, .coll ⟨.term, a1⟩), (2, .fn 48 []), (15, .coll ⟨.term, a0⟩), (16, .int .i64 (a0.length : Int)), (17, .int .i64 (i : Int))], []⟩
def topo_TermLR (a0 : List XTerm) (a1 : List XTerm) (i : Nat) : RT :=
  (.ask (decide ((i : Int) < (a0.length : Int)))
    (.need [0 ≤ (i : Int) ∧ (i : Int) < (a0.length : Int)]
      (.need [0 ≤ (i : Int) ∧ (i : Int) < (a1.length : Int)]
        (.need [((a0.getD i default).values).length < 4611686018427387904]
          (.ask (!(topo_SameTerms_1F ((a0.getD i default).key) ((a0.getD i default).values) ((a1.getD i default).key) ((a1.getD i default).values)))
            (.leaf .ret ⟨slots 32 [(6, .bool false)], []⟩ [])
            (.leaf .normal ⟨slots 32 [(1, .coll ⟨.term, a1⟩), (2, .fn 48 []), (15, .coll ⟨.term, a0⟩), (16, .int .i64 (a0.length : Int)), (17, .int .i64 (IntKind.i64.wrap ((i : Int) + (1 : Int))))], []⟩ [])))))
    (.leaf (.exit 0) ⟨slots 32 [], []⟩ []))
def topo_TermLT (a0 : List XTerm) (a1 : List XTerm) (i : Nat) : Tree :=
  .ask (topo_TermLF a1 (a0.drop i) i) (.leaf .ret ⟨slots 32 [(6, .bool false)], []⟩) (.leaf (.exit 0) ⟨slots 32 [], []⟩)
theorem topo_TermL_loop (a0 : List XTerm) (a1 : List XTerm) (hp0 : a0.length ≤ 4294967296) (hp1 : ∀ q ∈ a0, q.Fine) (hlen : a0.length < 4611686018427387904) (hn0 : a0.length = a1.length) (z : { z : Nat // z ≤ a0.length }) (Q : Exit → St → Prop) (h : (topo_TermLT a0 a1 z.1).All Q) : Tr Tryd.prog 0 (.loop (loopAt Tryd.f47 0)) (topo_TermLS a0 a1 z.1) Q := by
  refine Tr_loopT (kok _ _ _ _ _ _) (E := E_topo_Term) (ι := { z : Nat // z ≤ a0.length }) 60 0 (fun _ => noLoops) (fun z => topo_TermLS a0 a1 z.1) (fun z => topo_TermLT a0 a1 z.1) (fun z => topo_TermLR a0 a1 z.1) (fun z => a0.length - z.1) (fun _ => LoopsOk.none) (fun z => by obtain ⟨i, hi⟩ := z; kernel_rfl) (fun z => by obtain ⟨i, hi⟩ := z; kernel_rfl) (fun z => by obtain ⟨i, hi⟩ := z; kernel_rfl) ?_ z Q h
  rintro ⟨i, hi⟩ Q hT
  replace hT : (topo_TermLT a0 a1 i).All Q := hT
  replace hi : i ≤ a0.length := hi
  show (topo_TermLR a0 a1 i).All _
  unfold topo_TermLR
  refine ⟨fun h0 => ?_, fun h0 => ?_⟩
  · have hlt : i < a0.length := by simpa using h0
    have hd := drop_getD hlt
    have hw := wrap_succ (i := i) (by omega)
    refine ⟨need_cons (by first | assumption | omega | (intro; omega) | (simp only [decide_eq_true_eq, decide_eq_false_iff_not, Bool.cond_false_right, Bool.cond_true_right, Bool.cond_true_left, Bool.cond_false_left, Bool.and_eq_true, Bool.or_eq_true, Bool.not_eq_true', bytesLim, maxLen, List.length_cons, List.length_nil, List.length_append, byteSize_lit] at *; omega) | (intro; simp only [decide_eq_true_eq, decide_eq_false_iff_not, Bool.cond_false_right, Bool.cond_true_right, Bool.cond_true_left, Bool.cond_false_left, Bool.and_eq_true, Bool.or_eq_true, Bool.not_eq_true', bytesLim, maxLen, List.length_cons, List.length_nil, List.length_append, byteSize_lit] at *; omega)) (need_nil), ?_⟩
    refine ⟨need_cons (by first | assumption | omega | (intro; omega) | (simp only [decide_eq_true_eq, decide_eq_false_iff_not, Bool.cond_false_right, Bool.cond_true_right, Bool.cond_true_left, Bool.cond_false_left, Bool.and_eq_true, Bool.or_eq_true, Bool.not_eq_true', bytesLim, maxLen, List.length_cons, List.length_nil, List.length_append, byteSize_lit] at *; omega) | (intro; simp only [decide_eq_true_eq, decide_eq_false_iff_not, Bool.cond_false_right, Bool.cond_true_right, Bool.cond_true_left, Bool.cond_false_left, Bool.and_eq_true, Bool.or_eq_true, Bool.not_eq_true', bytesLim, maxLen, List.length_cons, List.length_nil, List.length_append, byteSize_lit] at *; omega)) (need_nil), ?_⟩
    refine ⟨need_cons (by exact (hp1 _ (gD_mem hlt)).2.1) (need_nil), ?_⟩
    refine ⟨fun h1 => ?_, fun h1 => ?_⟩
    · have hF : topo_TermLF a1 (a0.drop i) i = true := by rw [hd]; first | exact (cond_t h1 rfl) | simp only [topo_TermLF, h0, h1, cond_true, cond_false]
      unfold topo_TermLT at hT
      rw [hF] at hT
      exact hT.1 rfl
    · have hF : topo_TermLF a1 (a0.drop i) i = topo_TermLF a1 (a0.drop (i + 1)) (i + 1) := by rw [hd]; first | exact (cond_f h1 rfl) | simp only [topo_TermLF, h0, h1, cond_true, cond_false]
      refine ⟨⟨(i + 1), by show (i + 1) ≤ a0.length; omega⟩, by show a0.length - (i + 1) < a0.length - i; omega, ?_, ?_⟩
      · show _ = topo_TermLS a0 a1 (i + 1)
        unfold topo_TermLS
        simp only [hw]
      · show (topo_TermLT a0 a1 (i + 1)).All Q
        unfold topo_TermLT at hT ⊢
        rw [hF] at hT
        exact hT
  · have hge : ¬ i < a0.length := by simpa using h0
    have hd : a0.drop i = [] := List.drop_eq_nil_of_le (by omega)
    have hF : topo_TermLF a1 (a0.drop i) i = false := by rw [hd]; first | exact rfl | simp only [topo_TermLF, h0, cond_true, cond_false]
    unfold topo_TermLT at hT
    rw [hF] at hT
    exact hT.2 rfl
def topo_TermF (a0 : List XTerm) (a1 : List XTerm) : Bool :=
  cond (!((a0.length : Int) == (a1.length : Int)))
    false
    (cond (topo_TermLF a1 a0 0)
      false
      true)
def topo_TermR (a0 : List XTerm) (a1 : List XTerm) : RT :=
  (.ask (!((a0.length : Int) == (a1.length : Int)))
    (.leaf .ret ⟨slots 32 [(6, .bool false)], []⟩ [])
    (.need [a0.length = a1.length]
      (.ask (topo_TermLF a1 a0 0)
        (.leaf .ret ⟨slots 32 [(6, .bool false)], []⟩ [])
        (.leaf .ret ⟨slots 32 [(6, .bool true)], []⟩ []))))
theorem topo_TermF_tr (a0 : List XTerm) (a1 : List XTerm) (hp0 : a0.length ≤ 4294967296) (hp1 : ∀ q ∈ a0, q.Fine) : Tr Tryd.prog 0 (bodyOf Tryd.f47) (fnBegins Tryd.f47 [.coll ⟨.term, a0⟩, .coll ⟨.term, a1⟩, .fn 48 []] []) (fnEnds Tryd.prog Tryd.f47 (.bool (topo_TermF a0 a1)) []) := by
  refine Tr_tree (kok _ _ _ _ _ _) (E := E_topo_Term) (L := (loopsOf [(0, topo_TermLS a0 a1 0, [], .need [a0.length = a1.length] (topo_TermLT a0 a1 0))])) 60 9999 (LoopsOk.one (g := loopAt Tryd.f47 0) (b := 0) (by kernel_rfl) (by kernel_rfl) (by kernel_rfl) (by kernel_rfl) (fun Q h => topo_TermL_loop a0 a1 hp0 hp1 (by omega) (h.1 _ List.mem_cons_self) ⟨0, by first | exact Nat.zero_le _ | (show 0 ≤ a0.length; omega) | (show 0 ≤ a0.length; exact ⟨Nat.zero_le _, by assumption⟩) | (show 0 ≤ a0.length; simp)⟩ Q h.2)) (topo_TermR a0 a1) (by kernel_rfl) (by kernel_rfl) (by kernel_rfl) ?_
  unfold topo_TermR
  refine ⟨fun h0 => ?_, fun h0 => ?_⟩
  · have hF : topo_TermF a0 a1 = false := by first | exact (cond_t h0 rfl) | simp only [topo_TermF, h0, cond_true, cond_false]
    exact ⟨trivial, .inl (by first | (rw [hF]; kernel_rfl) | kernel_rfl), by first | (rw [hF]; kernel_rfl) | kernel_rfl⟩
  · refine ⟨need_cons (by have h9 := h0; simp only [Bool.not_eq_false', decide_eq_true_eq, beq_iff_eq] at h9; omega) (need_nil), ?_⟩
    refine ⟨fun h1 => ?_, fun h1 => ?_⟩
    · have hF : topo_TermF a0 a1 = false := by first | exact (cond_f h0 (cond_t h1 rfl)) | simp only [topo_TermF, h0, h1, cond_true, cond_false]
      exact ⟨trivial, .inl (by first | (rw [hF]; kernel_rfl) | kernel_rfl), by first | (rw [hF]; kernel_rfl) | kernel_rfl⟩
    · have hF : topo_TermF a0 a1 = true := by first | exact (cond_f h0 (cond_f h1 rfl)) | simp only [topo_TermF, h0, h1, cond_true, cond_false]
      exact ⟨trivial, .inl (by first | (rw [hF]; kernel_rfl) | kernel_rfl), by first | (rw [hF]; kernel_rfl) | kernel_rfl⟩
noncomputable def topo_Term_fact : Fact Tryd.prog := factOf 47 Tryd.f47 (by kernel_rfl) rfl (by kernel_rfl) [.c (.coll .term), .c (.coll .term), .c (.fn 48)] [] true (fun t u => .bool (topo_TermF t.1 t.2.1)) (fun t u => []) (fun t u => [t.1.length ≤ 4294967296, ∀ q ∈ t.1, q.Fine])
  (fun _ _ _ => rfl) (fun t u => by kernel_rfl) (fun t u => by kernel_rfl) (fun t u h => topo_TermF_tr t.1 t.2.1 (h _ List.mem_cons_self) (h _ (List.mem_cons_of_mem _ List.mem_cons_self)))
noncomputable def E_topo_SameTerms : Env := envOf (P := Tryd.prog) [topo_Term_fact] [] [] ckf
def topo_SameTermsF (a0 : List XTerm) (a1 : List XTerm) : Bool :=
  topo_TermF a0 a1
def topo_SameTermsR (a0 : List XTerm) (a1 : List XTerm) : RT :=
  (.need [a0.length ≤ 4294967296, ∀ q ∈ a0, q.Fine]
    (.leaf .ret ⟨slots 8 [(4, .bool (topo_TermF a0 a1))], []⟩ []))
theorem topo_SameTermsF_tr (a0 : List XTerm) (a1 : List XTerm) (hp0 : a0.length ≤ 4294967296) (hp1 : ∀ q ∈ a0, q.Fine) : Tr Tryd.prog 0 (bodyOf Tryd.f26) (fnBegins Tryd.f26 [.coll ⟨.term, a0⟩, .coll ⟨.term, a1⟩] []) (fnEnds Tryd.prog Tryd.f26 (.bool (topo_SameTermsF a0 a1)) []) := by
  refine Tr_tree (kok _ _ _ _ _ _) (E := E_topo_SameTerms) (L := noLoops) 60 9999 LoopsOk.none (topo_SameTermsR a0 a1) (by kernel_rfl) (by kernel_rfl) (by kernel_rfl) ?_
  unfold topo_SameTermsR
  refine ⟨need_cons (by first | assumption | omega | (intro; omega) | (simp only [decide_eq_true_eq, decide_eq_false_iff_not, Bool.cond_false_right, Bool.cond_true_right, Bool.cond_true_left, Bool.cond_false_left, Bool.and_eq_true, Bool.or_eq_true, Bool.not_eq_true', bytesLim, maxLen, List.length_cons, List.length_nil, List.length_append, byteSize_lit] at *; omega) | (intro; simp only [decide_eq_true_eq, decide_eq_false_iff_not, Bool.cond_false_right, Bool.cond_true_right, Bool.cond_true_left, Bool.cond_false_left, Bool.and_eq_true, Bool.or_eq_true, Bool.not_eq_true', bytesLim, maxLen, List.length_cons, List.length_nil, List.length_append, byteSize_lit] at *; omega)) (need_cons (by first | assumption | omega | (intro; omega) | (simp only [decide_eq_true_eq, decide_eq_false_iff_not, Bool.cond_false_right, Bool.cond_true_right, Bool.cond_true_left, Bool.cond_false_left, Bool.and_eq_true, Bool.or_eq_true, Bool.not_eq_true', bytesLim, maxLen, List.length_cons, List.length_nil, List.length_append, byteSize_lit] at *; omega) | (intro; simp only [decide_eq_true_eq, decide_eq_false_iff_not, Bool.cond_false_right, Bool.cond_true_right, Bool.cond_true_left, Bool.cond_false_left, Bool.and_eq_true, Bool.or_eq_true, Bool.not_eq_true', bytesLim, maxLen, List.length_cons, List.length_nil, List.length_append, byteSize_lit] at *; omega)) (need_nil)), ?_⟩
  exact ⟨trivial, .inl (by kernel_rfl), by kernel_rfl⟩
noncomputable def topo_SameTerms_fact : Fact Tryd.prog := factOf 26 Tryd.f26 (by kernel_rfl) rfl (by kernel_rfl) [.c (.coll .term), .c (.coll .term)] [] true (fun t u => .bool (topo_SameTermsF t.1 t.2.1)) (fun t u => []) (fun t u => [t.1.length ≤ 4294967296, ∀ q ∈ t.1, q.Fine])
  (fun _ _ _ => rfl) (fun t u => by kernel_rfl) (fun t u => by kernel_rfl) (fun t u h => topo_SameTermsF_tr t.1 t.2.1 (h _ List.mem_cons_self) (h _ (List.mem_cons_of_mem _ List.mem_cons_self)))
noncomputable def E_topo_Label_3 : Env := envOf (P := Tryd.prog) [] [] [] ckf
def topo_Label_3LF (a1 : List XLabel) : List XLabel → Nat → Bool
  | [], i => false
  | o :: r, i => cond (!((decide ((o.key) = ((a1.getD i default).key))) && (decide ((o.value) = ((a1.getD i default).value)))))
    true
    (topo_Label_3LF a1 r (i + 1))
def topo_Label_3LS (a0 : List XLabel) (a1 : List XLabel) (i : Nat) : St :=
  ⟨slots 26 [(0, .coll ⟨.label, a0⟩), (1, .coll ⟨.label, a1⟩), (12, .int .i64 (a0.length : Int)), (13, .int .i64 (i : Int))], []⟩
def topo_Label_3LR (a0 : List XLabel) (a1 : List XLabel) (i : Nat) : RT :=
  (.ask (decide ((i : Int) < (a0.length : Int)))
    (.need [0 ≤ (i : Int) ∧ (i : Int) < (a0.length : Int), 0 ≤ (i : Int) ∧ (i : Int) < (a1.length : Int)]
      (.ask (!((decide (((a0.getD i default).key) = ((a1.getD i default).key))) && (decide (((a0.getD i default).value) = ((a1.getD i default).value)))))
        (.leaf .ret ⟨slots 26 [(4, .bool false)], []⟩ [])
        (.leaf .normal ⟨slots 26 [(0, .coll ⟨.label, a0⟩), (1, .coll ⟨.label, a1⟩), (12, .int .i64 (a0.length : Int)), (13, .int .i64 (IntKind.i64.wrap ((i : Int) + (1 : Int))))], []⟩ [])))
    (.leaf (.exit 0) ⟨slots 26 [], []⟩ []))
def topo_Label_3LT (a0 : List XLabel) (a1 : List XLabel) (i : Nat) : Tree :=
  .ask (topo_Label_3LF a1 (a0.drop i) i) (.leaf .ret ⟨slots 26 [(4, .bool false)], []⟩) (.leaf (.exit 0) ⟨slots 26 [], []⟩)
theorem topo_Label_3L_loop (a0 : List XLabel) (a1 : List XLabel) (hp0 : a0.length < 4611686018427387904) (hlen : a0.length < 4611686018427387904) (hn0 : a0.length = a1.length) (z : { z : Nat // z ≤ a0.length }) (Q : Exit → St → Prop) (h : (topo_Label_3LT a0 a1 z.1).All Q) : Tr Tryd.prog 0 (.loop (loopAt Tryd.f50 0)) (topo_Label_3LS a0 a1 z.1) Q := by
  refine Tr_loopT (kok _ _ _ _ _ _) (E := E_topo_Label_3) (ι := { z : Nat // z ≤ a0.length }) 60 0 (fun _ => noLoops) (fun z => topo_Label_3LS a0 a1 z.1) (fun z => topo_Label_3LT a0 a1 z.1) (fun z => topo_Label_3LR a0 a1 z.1) (fun z => a0.length - z.1) (fun _ => LoopsOk.none) (fun z => by obtain ⟨i, hi⟩ := z; kernel_rfl) (fun z => by obtain ⟨i, hi⟩ := z; kernel_rfl) (fun z => by obtain ⟨i, hi⟩ := z; kernel_rfl) ?_ z Q h
  rintro ⟨i, hi⟩ Q hT
  replace hT : (topo_Label_3LT a0 a1 i).All Q := hT
  replace hi : i ≤ a0.length := hi
  show (topo_Label_3LR a0 a1 i).All _
  unfold topo_Label_3LR
  refine ⟨fun h0 => ?_, fun h0 => ?_⟩
  · have hlt : i < a0.length := by simpa using h0
    have hd := drop_getD hlt
    have hw := wrap_succ (i := i) (by omega)
    refine ⟨need_cons (by first | assumption | omega | (intro; omega) | (simp only [decide_eq_true_eq, decide_eq_false_iff_not, Bool.cond_false_right, Bool.cond_true_right, Bool.cond_true_left, Bool.cond_false_left, Bool.and_eq_true, Bool.or_eq_true, Bool.not_eq_true', bytesLim, maxLen, List.length_cons, List.length_nil, List.length_append, byteSize_lit] at *; omega) | (intro; simp only [decide_eq_true_eq, decide_eq_false_iff_not, Bool.cond_false_right, Bool.cond_true_right, Bool.cond_true_left, Bool.cond_false_left, Bool.and_eq_true, Bool.or_eq_true, Bool.not_eq_true', bytesLim, maxLen, List.length_cons, List.length_nil, List.length_append, byteSize_lit] at *; omega)) (need_cons (by first | assumption | omega | (intro; omega) | (simp only [decide_eq_true_eq, decide_eq_false_iff_not, Bool.cond_false_right, Bool.cond_true_right, Bool.cond_true_left, Bool.cond_false_left, Bool.and_eq_true, Bool.or_eq_true, Bool.not_eq_true', bytesLim, maxLen, List.length_cons, List.length_nil, List.length_append, byteSize_lit] at *; omega) | (intro; simp only [decide_eq_true_eq, decide_eq_false_iff_not, Bool.cond_false_right, Bool.cond_true_right, Bool.cond_true_left, Bool.cond_false_left, Bool.and_eq_true, Bool.or_eq_true, Bool.not_eq_true', bytesLim, maxLen, List.length_cons, List.length_nil, List.length_append, byteSize_lit] at *; omega)) (need_nil)), ?_⟩
    refine ⟨fun h1 => ?_, fun h1 => ?_⟩
    · have hF : topo_Label_3LF a1 (a0.drop i) i = true := by rw [hd]; first | exact (cond_t h1 rfl) | simp only [topo_Label_3LF, h0, h1, cond_true, cond_false]
      unfold topo_Label_3LT at hT
      rw [hF] at hT
      exact hT.1 rfl
    · have hF : topo_Label_3LF a1 (a0.drop i) i = topo_Label_3LF a1 (a0.drop (i + 1)) (i + 1) := by rw [hd]; first | exact (cond_f h1 rfl) | simp only [topo_Label_3LF, h0, h1, cond_true, cond_false]
      refine ⟨⟨(i + 1), by show (i + 1) ≤ a0.length; omega⟩, by show a0.length - (i + 1) < a0.length - i; omega, ?_, ?_⟩
      · show _ = topo_Label_3LS a0 a1 (i + 1)
        unfold topo_Label_3LS
        simp only [hw]
      · show (topo_Label_3LT a0 a1 (i + 1)).All Q
        unfold topo_Label_3LT at hT ⊢
        rw [hF] at hT
        exact hT
  · have hge : ¬ i < a0.length := by simpa using h0
    have hd : a0.drop i = [] := List.drop_eq_nil_of_le (by omega)
    have hF : topo_Label_3LF a1 (a0.drop i) i = false := by rw [hd]; first | exact rfl | simp only [topo_Label_3LF, h0, cond_true, cond_false]
    unfold topo_Label_3LT at hT
    rw [hF] at hT
    exact hT.2 rfl
def topo_Label_3F (a0 : List XLabel) (a1 : List XLabel) : Bool :=
  cond (!((a0.length : Int) == (a1.length : Int)))
    false
    (cond (topo_Label_3LF a1 a0 0)
      false
      true)
def topo_Label_3R (a0 : List XLabel) (a1 : List XLabel) : RT :=
  (.ask (!((a0.length : Int) == (a1.length : Int)))
    (.leaf .ret ⟨slots 26 [(4, .bool false)], []⟩ [])
    (.need [a0.length = a1.length]
      (.ask (topo_Label_3LF a1 a0 0)
        (.leaf .ret ⟨slots 26 [(4, .bool false)], []⟩ [])
        (.leaf .ret ⟨slots 26 [(4, .bool true)], []⟩ []))))
theorem topo_Label_3F_tr (a0 : List XLabel) (a1 : List XLabel) (hp0 : a0.length < 4611686018427387904) : Tr Tryd.prog 0 (bodyOf Tryd.f50) (fnBegins Tryd.f50 [.coll ⟨.label, a0⟩, .coll ⟨.label, a1⟩] []) (fnEnds Tryd.prog Tryd.f50 (.bool (topo_Label_3F a0 a1)) []) := by
  refine Tr_tree (kok _ _ _ _ _ _) (E := E_topo_Label_3) (L := (loopsOf [(0, topo_Label_3LS a0 a1 0, [], .need [a0.length = a1.length] (topo_Label_3LT a0 a1 0))])) 60 9999 (LoopsOk.one (g := loopAt Tryd.f50 0) (b := 0) (by kernel_rfl) (by kernel_rfl) (by kernel_rfl) (by kernel_rfl) (fun Q h => topo_Label_3L_loop a0 a1 hp0 (by omega) (h.1 _ List.mem_cons_self) ⟨0, by first | exact Nat.zero_le _ | (show 0 ≤ a0.length; omega) | (show 0 ≤ a0.length; exact ⟨Nat.zero_le _, by assumption⟩) | (show 0 ≤ a0.length; simp)⟩ Q h.2)) (topo_Label_3R a0 a1) (by kernel_rfl) (by kernel_rfl) (by kernel_rfl) ?_
  unfold topo_Label_3R
  refine ⟨fun h0 => ?_, fun h0 => ?_⟩
  · have hF : topo_Label_3F a0 a1 = false := by first | exact (cond_t h0 rfl) | simp only [topo_Label_3F, h0, cond_true, cond_false]
    exact ⟨trivial, .inl (by first | (rw [hF]; kernel_rfl) | kernel_rfl), by first | (rw [hF]; kernel_rfl) | kernel_rfl⟩
  · refine ⟨need_cons (by have h9 := h0; simp only [Bool.not_eq_false', decide_eq_true_eq, beq_iff_eq] at h9; omega) (need_nil), ?_⟩
    refine ⟨fun h1 => ?_, fun h1 => ?_⟩
    · have hF : topo_Label_3F a0 a1 = false := by first | exact (cond_f h0 (cond_t h1 rfl)) | simp only [topo_Label_3F, h0, h1, cond_true, cond_false]
      exact ⟨trivial, .inl (by first | (rw [hF]; kernel_rfl) | kernel_rfl), by first | (rw [hF]; kernel_rfl) | kernel_rfl⟩
    · have hF : topo_Label_3F a0 a1 = true := by first | exact (cond_f h0 (cond_f h1 rfl)) | simp only [topo_Label_3F, h0, h1, cond_true, cond_false]
      exact ⟨trivial, .inl (by first | (rw [hF]; kernel_rfl) | kernel_rfl), by first | (rw [hF]; kernel_rfl) | kernel_rfl⟩
noncomputable def topo_Label_3_fact : Fact Tryd.prog := factOf 50 Tryd.f50 (by kernel_rfl) rfl (by kernel_rfl) [.c (.coll .label), .c (.coll .label)] [] true (fun t u => .bool (topo_Label_3F t.1 t.2.1)) (fun t u => []) (fun t u => [t.1.length < 4611686018427387904])
  (fun _ _ _ => rfl) (fun t u => by kernel_rfl) (fun t u => by kernel_rfl) (fun t u h => topo_Label_3F_tr t.1 t.2.1 (h _ List.mem_cons_self))
noncomputable def E_topo_SameLabels : Env := envOf (P := Tryd.prog) [topo_Label_3_fact] [] [] ckf
def topo_SameLabelsF (a0 : List XLabel) (a1 : List XLabel) : Bool :=
  topo_Label_3F a0 a1
def topo_SameLabelsR (a0 : List XLabel) (a1 : List XLabel) : RT :=
  (.need [a0.length < 4611686018427387904]
    (.leaf .ret ⟨slots 8 [(4, .bool (topo_Label_3F a0 a1))], []⟩ []))
theorem topo_SameLabelsF_tr (a0 : List XLabel) (a1 : List XLabel) (hp0 : a0.length ≤ 4294967296) : Tr Tryd.prog 0 (bodyOf Tryd.f27) (fnBegins Tryd.f27 [.coll ⟨.label, a0⟩, .coll ⟨.label, a1⟩] []) (fnEnds Tryd.prog Tryd.f27 (.bool (topo_SameLabelsF a0 a1)) []) := by
  refine Tr_tree (kok _ _ _ _ _ _) (E := E_topo_SameLabels) (L := noLoops) 60 9999 LoopsOk.none (topo_SameLabelsR a0 a1) (by kernel_rfl) (by kernel_rfl) (by kernel_rfl) ?_
  unfold topo_SameLabelsR
  refine ⟨need_cons (by omega) (need_nil), ?_⟩
  exact ⟨trivial, .inl (by kernel_rfl), by kernel_rfl⟩
noncomputable def topo_SameLabels_fact : Fact Tryd.prog := factOf 27 Tryd.f27 (by kernel_rfl) rfl (by kernel_rfl) [.c (.coll .label), .c (.coll .label)] [] true (fun t u => .bool (topo_SameLabelsF t.1 t.2.1)) (fun t u => []) (fun t u => [t.1.length ≤ 4294967296])
  (fun _ _ _ => rfl) (fun t u => by kernel_rfl) (fun t u => by kernel_rfl) (fun t u h => topo_SameLabelsF_tr t.1 t.2.1 (h _ List.mem_cons_self))
noncomputable def E_r02_SameTerms : Env := envOf (P := Tryd.prog) [] [] [] ckf
def r02_SameTermsL1F (a1 : List XTerm) (i : Nat) : List ByteArray → Nat → Bool
  | [], i1 => false
  | o1 :: r, i1 => cond (!(decide (o1 = (((a1.getD i default).values).getD i1 default))))
    true
    (r02_SameTermsL1F a1 i r (i1 + 1))
def r02_SameTermsL1S (a0 : List XTerm) (a1 : List XTerm) (i : Nat) (i1 : Nat) : St :=
  ⟨slots 71 [(0, .coll ⟨.term, a0⟩), (1, .coll ⟨.term, a1⟩), (5, .int .i64 (i : Int)), (6, .int .i64 (i1 : Int))], []⟩
def r02_SameTermsL1R (a0 : List XTerm) (a1 : List XTerm) (i : Nat) (i1 : Nat) : RT :=
  (.need [0 ≤ (i : Int) ∧ (i : Int) < (a0.length : Int)]
    (.ask (decide ((i1 : Int) < (((a0.getD i default).values).length : Int)))
      (.need [0 ≤ (i : Int) ∧ (i : Int) < (a0.length : Int), 0 ≤ (i1 : Int) ∧ (i1 : Int) < (((a0.getD i default).values).length : Int), 0 ≤ (i : Int) ∧ (i : Int) < (a1.length : Int), 0 ≤ (i1 : Int) ∧ (i1 : Int) < (((a1.getD i default).values).length : Int)]
        (.ask (!(decide ((((a0.getD i default).values).getD i1 default) = (((a1.getD i default).values).getD i1 default))))
          (.leaf .ret ⟨slots 71 [(4, .bool false)], []⟩ [])
          (.leaf .normal ⟨slots 71 [(0, .coll ⟨.term, a0⟩), (1, .coll ⟨.term, a1⟩), (5, .int .i64 (i : Int)), (6, .int .i64 (IntKind.i64.wrap ((i1 : Int) + (1 : Int))))], []⟩ [])))
      (.leaf (.exit 2) ⟨slots 71 [(0, .coll ⟨.term, a0⟩), (1, .coll ⟨.term, a1⟩), (5, .int .i64 (i : Int))], []⟩ [])))
def r02_SameTermsL1T (a0 : List XTerm) (a1 : List XTerm) (i : Nat) (i1 : Nat) : Tree :=
  .ask (r02_SameTermsL1F a1 i (((a0.getD i default).values).drop i1) i1) (.leaf .ret ⟨slots 71 [(4, .bool false)], []⟩) (.leaf (.exit 2) ⟨slots 71 [(0, .coll ⟨.term, a0⟩), (1, .coll ⟨.term, a1⟩), (5, .int .i64 (i : Int))], []⟩)
theorem r02_SameTermsL1_loop (a0 : List XTerm) (a1 : List XTerm) (i : Nat) (hp0 : a0.length ≤ 4294967296) (hp1 : a1.length ≤ 4294967296) (hp2 : ∀ q ∈ a0, q.Fine) (hlen : ((a0.getD i default).values).length < 4611686018427387904) (hn0 : ((a0.getD i default).values).length = ((a1.getD i default).values).length) (hn1 : 0 ≤ (i : Int) ∧ (i : Int) < (a0.length : Int)) (hn2 : 0 ≤ (i : Int) ∧ (i : Int) < (a1.length : Int)) (z : { z : Nat // z ≤ ((a0.getD i default).values).length }) (Q : Exit → St → Prop) (h : (r02_SameTermsL1T a0 a1 i z.1).All Q) : Tr Tryd.prog 0 (.loop (loopSub (loopAt Tryd.f17 0) 0 0)) (r02_SameTermsL1S a0 a1 i z.1) Q := by
  refine Tr_loopT (kok _ _ _ _ _ _) (E := E_r02_SameTerms) (ι := { z : Nat // z ≤ ((a0.getD i default).values).length }) 60 2 (fun _ => noLoops) (fun z => r02_SameTermsL1S a0 a1 i z.1) (fun z => r02_SameTermsL1T a0 a1 i z.1) (fun z => r02_SameTermsL1R a0 a1 i z.1) (fun z => ((a0.getD i default).values).length - z.1) (fun _ => LoopsOk.none) (fun z => by obtain ⟨i1, hi⟩ := z; kernel_rfl) (fun z => by obtain ⟨i1, hi⟩ := z; kernel_rfl) (fun z => by obtain ⟨i1, hi⟩ := z; kernel_rfl) ?_ z Q h
  rintro ⟨i1, hi⟩ Q hT
  replace hT : (r02_SameTermsL1T a0 a1 i i1).All Q := hT
  replace hi : i1 ≤ ((a0.getD i default).values).length := hi
  show (r02_SameTermsL1R a0 a1 i i1).All _
  unfold r02_SameTermsL1R
  refine ⟨need_cons (by first | assumption | omega | (intro; omega) | (simp only [decide_eq_true_eq, decide_eq_false_iff_not, Bool.cond_false_right, Bool.cond_true_right, Bool.cond_true_left, Bool.cond_false_left, Bool.and_eq_true, Bool.or_eq_true, Bool.not_eq_true', bytesLim, maxLen, List.length_cons, List.length_nil, List.length_append, byteSize_lit] at *; omega) | (intro; simp only [decide_eq_true_eq, decide_eq_false_iff_not, Bool.cond_false_right, Bool.cond_true_right, Bool.cond_true_left, Bool.cond_false_left, Bool.and_eq_true, Bool.or_eq_true, Bool.not_eq_true', bytesLim, maxLen, List.length_cons, List.length_nil, List.length_append, byteSize_lit] at *; omega)) (need_nil), ?_⟩
  refine ⟨fun h0 => ?_, fun h0 => ?_⟩
  · have hlt : i1 < ((a0.getD i default).values).length := by simpa using h0
    have hd := drop_getD hlt
    have hw := wrap_succ (i := i1) (by omega)
    refine ⟨need_cons (by first | assumption | omega | (intro; omega) | (simp only [decide_eq_true_eq, decide_eq_false_iff_not, Bool.cond_false_right, Bool.cond_true_right, Bool.cond_true_left, Bool.cond_false_left, Bool.and_eq_true, Bool.or_eq_true, Bool.not_eq_true', bytesLim, maxLen, List.length_cons, List.length_nil, List.length_append, byteSize_lit] at *; omega) | (intro; simp only [decide_eq_true_eq, decide_eq_false_iff_not, Bool.cond_false_right, Bool.cond_true_right, Bool.cond_true_left, Bool.cond_false_left, Bool.and_eq_true, Bool.or_eq_true, Bool.not_eq_true', bytesLim, maxLen, List.length_cons, List.length_nil, List.length_append, byteSize_lit] at *; omega)) (need_cons (by first | assumption | omega | (intro; omega) | (simp only [decide_eq_true_eq, decide_eq_false_iff_not, Bool.cond_false_right, Bool.cond_true_right, Bool.cond_true_left, Bool.cond_false_left, Bool.and_eq_true, Bool.or_eq_true, Bool.not_eq_true', bytesLim, maxLen, List.length_cons, List.length_nil, List.length_append, byteSize_lit] at *; omega) | (intro; simp only [decide_eq_true_eq, decide_eq_false_iff_not, Bool.cond_false_right, Bool.cond_true_right, Bool.cond_true_left, Bool.cond_false_left, Bool.and_eq_true, Bool.or_eq_true, Bool.not_eq_true', bytesLim, maxLen, List.length_cons, List.length_nil, List.length_append, byteSize_lit] at *; omega)) (need_cons (by first | assumption | omega | (intro; omega) | (simp only [decide_eq_true_eq, decide_eq_false_iff_not, Bool.cond_false_right, Bool.cond_true_right, Bool.cond_true_left, Bool.cond_false_left, Bool.and_eq_true, Bool.or_eq_true, Bool.not_eq_true', bytesLim, maxLen, List.length_cons, List.length_nil, List.length_append, byteSize_lit] at *; omega) | (intro; simp only [decide_eq_true_eq, decide_eq_false_iff_not, Bool.cond_false_right, Bool.cond_true_right, Bool.cond_true_left, Bool.cond_false_left, Bool.and_eq_true, Bool.or_eq_true, Bool.not_eq_true', bytesLim, maxLen, List.length_cons, List.length_nil, List.length_append, byteSize_lit] at *; omega)) (need_cons (by first | assumption | omega | (intro; omega) | (simp only [decide_eq_true_eq, decide_eq_false_iff_not, Bool.cond_false_right, Bool.cond_true_right, Bool.cond_true_left, Bool.cond_false_left, Bool.and_eq_true, Bool.or_eq_true, Bool.not_eq_true', bytesLim, maxLen, List.length_cons, List.length_nil, List.length_append, byteSize_lit] at *; omega) | (intro; simp only [decide_eq_true_eq, decide_eq_false_iff_not, Bool.cond_false_right, Bool.cond_true_right, Bool.cond_true_left, Bool.cond_false_left, Bool.and_eq_true, Bool.or_eq_true, Bool.not_eq_true', bytesLim, maxLen, List.length_cons, List.length_nil, List.length_append, byteSize_lit] at *; omega)) (need_nil)))), ?_⟩
    refine ⟨fun h1 => ?_, fun h1 => ?_⟩
    · have hF : r02_SameTermsL1F a1 i (((a0.getD i default).values).drop i1) i1 = true := by rw [hd]; first | exact (cond_t h1 rfl) | simp only [r02_SameTermsL1F, h0, h1, cond_true, cond_false]
      unfold r02_SameTermsL1T at hT
      rw [hF] at hT
      exact hT.1 rfl
    · have hF : r02_SameTermsL1F a1 i (((a0.getD i default).values).drop i1) i1 = r02_SameTermsL1F a1 i (((a0.getD i default).values).drop (i1 + 1)) (i1 + 1) := by rw [hd]; first | exact (cond_f h1 rfl) | simp only [r02_SameTermsL1F, h0, h1, cond_true, cond_false]
      refine ⟨⟨(i1 + 1), by show (i1 + 1) ≤ ((a0.getD i default).values).length; omega⟩, by show ((a0.getD i default).values).length - (i1 + 1) < ((a0.getD i default).values).length - i1; omega, ?_, ?_⟩
      · show _ = r02_SameTermsL1S a0 a1 i (i1 + 1)
        unfold r02_SameTermsL1S
        simp only [hw]
      · show (r02_SameTermsL1T a0 a1 i (i1 + 1)).All Q
        unfold r02_SameTermsL1T at hT ⊢
        rw [hF] at hT
        exact hT
  · have hge : ¬ i1 < ((a0.getD i default).values).length := by simpa using h0
    have hd : ((a0.getD i default).values).drop i1 = [] := List.drop_eq_nil_of_le (by omega)
    have hF : r02_SameTermsL1F a1 i (((a0.getD i default).values).drop i1) i1 = false := by rw [hd]; first | exact rfl | simp only [r02_SameTermsL1F, h0, cond_true, cond_false]
    unfold r02_SameTermsL1T at hT
    rw [hF] at hT
    exact hT.2 rfl
def r02_SameTermsLF (a1 : List XTerm) : List XTerm → Nat → Bool
  | [], i => false
  | o :: r, i => cond (cond (!(decide ((o.key) = ((a1.getD i default).key)))) true (!(((o.values).length : Int) == (((a1.getD i default).values).length : Int))))
    true
    (cond (r02_SameTermsL1F a1 i (o.values) 0)
      true
      (r02_SameTermsLF a1 r (i + 1)))
def r02_SameTermsLS (a0 : List XTerm) (a1 : List XTerm) (i : Nat) : St :=
  ⟨slots 71 [(0, .coll ⟨.term, a0⟩), (1, .coll ⟨.term, a1⟩), (5, .int .i64 (i : Int))], []⟩
def r02_SameTermsLR (a0 : List XTerm) (a1 : List XTerm) (i : Nat) : RT :=
  (.ask (decide ((i : Int) < (a0.length : Int)))
    (.need [0 ≤ (i : Int) ∧ (i : Int) < (a0.length : Int), 0 ≤ (i : Int) ∧ (i : Int) < (a1.length : Int), ((!(decide (((a0.getD i default).key) = ((a1.getD i default).key)))) = false) → (0 ≤ (i : Int) ∧ (i : Int) < (a0.length : Int)), ((!(decide (((a0.getD i default).key) = ((a1.getD i default).key)))) = false) → (0 ≤ (i : Int) ∧ (i : Int) < (a1.length : Int))]
      (.ask (cond (!(decide (((a0.getD i default).key) = ((a1.getD i default).key)))) true (!((((a0.getD i default).values).length : Int) == (((a1.getD i default).values).length : Int))))
        (.leaf .ret ⟨slots 71 [(4, .bool false)], []⟩ [])
        (.need [((a0.getD i default).values).length = ((a1.getD i default).values).length, 0 ≤ (i : Int) ∧ (i : Int) < (a0.length : Int), 0 ≤ (i : Int) ∧ (i : Int) < (a1.length : Int), ((a0.getD i default).values).length < 4611686018427387904, ((a0.getD i default).values).length < 4611686018427387904]
          (.ask (r02_SameTermsL1F a1 i ((a0.getD i default).values) 0)
            (.leaf .ret ⟨slots 71 [(4, .bool false)], []⟩ [])
            (.leaf .normal ⟨slots 71 [(0, .coll ⟨.term, a0⟩), (1, .coll ⟨.term, a1⟩), (5, .int .i64 (IntKind.i64.wrap ((i : Int) + (1 : Int))))], []⟩ [])))))
    (.leaf (.exit 0) ⟨slots 71 [], []⟩ []))
def r02_SameTermsLT (a0 : List XTerm) (a1 : List XTerm) (i : Nat) : Tree :=
  .ask (r02_SameTermsLF a1 (a0.drop i) i) (.leaf .ret ⟨slots 71 [(4, .bool false)], []⟩) (.leaf (.exit 0) ⟨slots 71 [], []⟩)
theorem r02_SameTermsL_loop (a0 : List XTerm) (a1 : List XTerm) (hp0 : a0.length ≤ 4294967296) (hp1 : a1.length ≤ 4294967296) (hp2 : ∀ q ∈ a0, q.Fine) (hlen : a0.length < 4611686018427387904) (hn0 : a0.length = a1.length) (z : { z : Nat // z ≤ a0.length }) (Q : Exit → St → Prop) (h : (r02_SameTermsLT a0 a1 z.1).All Q) : Tr Tryd.prog 0 (.loop (loopAt Tryd.f17 0)) (r02_SameTermsLS a0 a1 z.1) Q := by
  refine Tr_loopT (kok _ _ _ _ _ _) (E := E_r02_SameTerms) (ι := { z : Nat // z ≤ a0.length }) 60 0 (fun z => loopsOf [(2, r02_SameTermsL1S a0 a1 z.1 0, [], .need [((a0.getD z.1 default).values).length = ((a1.getD z.1 default).values).length, 0 ≤ (z.1 : Int) ∧ (z.1 : Int) < (a0.length : Int), 0 ≤ (z.1 : Int) ∧ (z.1 : Int) < (a1.length : Int), ((a0.getD z.1 default).values).length < 4611686018427387904, ((a0.getD z.1 default).values).length < 4611686018427387904] (r02_SameTermsL1T a0 a1 z.1 0))]) (fun z => r02_SameTermsLS a0 a1 z.1) (fun z => r02_SameTermsLT a0 a1 z.1) (fun z => r02_SameTermsLR a0 a1 z.1) (fun z => a0.length - z.1) (fun z => by obtain ⟨i, hi⟩ := z; exact LoopsOk.one (g := loopSub (loopAt Tryd.f17 0) 0 0) (b := 2) (by kernel_rfl) (by kernel_rfl) (by kernel_rfl) (by kernel_rfl) (fun Q h => r02_SameTermsL1_loop a0 a1 i hp0 hp1 hp2 (h.1 _ (List.mem_cons_of_mem _ (List.mem_cons_of_mem _ (List.mem_cons_of_mem _ List.mem_cons_self)))) (h.1 _ List.mem_cons_self) (h.1 _ (List.mem_cons_of_mem _ List.mem_cons_self)) (h.1 _ (List.mem_cons_of_mem _ (List.mem_cons_of_mem _ List.mem_cons_self))) ⟨0, by first | exact Nat.zero_le _ | (show 0 ≤ ((a0.getD i default).values).length; omega) | (show 0 ≤ ((a0.getD i default).values).length; exact ⟨Nat.zero_le _, by assumption⟩) | (show 0 ≤ ((a0.getD i default).values).length; simp)⟩ Q h.2)) (fun z => by obtain ⟨i, hi⟩ := z; kernel_rfl) (fun z => by obtain ⟨i, hi⟩ := z; kernel_rfl) (fun z => by obtain ⟨i, hi⟩ := z; kernel_rfl) ?_ z Q h
  rintro ⟨i, hi⟩ Q hT
  replace hT : (r02_SameTermsLT a0 a1 i).All Q := hT
  replace hi : i ≤ a0.length := hi
  show (r02_SameTermsLR a0 a1 i).All _
  unfold r02_SameTermsLR
  refine ⟨fun h0 => ?_, fun h0 => ?_⟩
  · have hlt : i < a0.length := by simpa using h0
    have hd := drop_getD hlt
    have hw := wrap_succ (i := i) (by omega)
    refine ⟨need_cons (by first | assumption | omega | (intro; omega) | (simp only [decide_eq_true_eq, decide_eq_false_iff_not, Bool.cond_false_right, Bool.cond_true_right, Bool.cond_true_left, Bool.cond_false_left, Bool.and_eq_true, Bool.or_eq_true, Bool.not_eq_true', bytesLim, maxLen, List.length_cons, List.length_nil, List.length_append, byteSize_lit] at *; omega) | (intro; simp only [decide_eq_true_eq, decide_eq_false_iff_not, Bool.cond_false_right, Bool.cond_true_right, Bool.cond_true_left, Bool.cond_false_left, Bool.and_eq_true, Bool.or_eq_true, Bool.not_eq_true', bytesLim, maxLen, List.length_cons, List.length_nil, List.length_append, byteSize_lit] at *; omega)) (need_cons (by first | assumption | omega | (intro; omega) | (simp only [decide_eq_true_eq, decide_eq_false_iff_not, Bool.cond_false_right, Bool.cond_true_right, Bool.cond_true_left, Bool.cond_false_left, Bool.and_eq_true, Bool.or_eq_true, Bool.not_eq_true', bytesLim, maxLen, List.length_cons, List.length_nil, List.length_append, byteSize_lit] at *; omega) | (intro; simp only [decide_eq_true_eq, decide_eq_false_iff_not, Bool.cond_false_right, Bool.cond_true_right, Bool.cond_true_left, Bool.cond_false_left, Bool.and_eq_true, Bool.or_eq_true, Bool.not_eq_true', bytesLim, maxLen, List.length_cons, List.length_nil, List.length_append, byteSize_lit] at *; omega)) (need_cons (by first | assumption | omega | (intro; omega) | (simp only [decide_eq_true_eq, decide_eq_false_iff_not, Bool.cond_false_right, Bool.cond_true_right, Bool.cond_true_left, Bool.cond_false_left, Bool.and_eq_true, Bool.or_eq_true, Bool.not_eq_true', bytesLim, maxLen, List.length_cons, List.length_nil, List.length_append, byteSize_lit] at *; omega) | (intro; simp only [decide_eq_true_eq, decide_eq_false_iff_not, Bool.cond_false_right, Bool.cond_true_right, Bool.cond_true_left, Bool.cond_false_left, Bool.and_eq_true, Bool.or_eq_true, Bool.not_eq_true', bytesLim, maxLen, List.length_cons, List.length_nil, List.length_append, byteSize_lit] at *; omega)) (need_cons (by first | assumption | omega | (intro; omega) | (simp only [decide_eq_true_eq, decide_eq_false_iff_not, Bool.cond_false_right, Bool.cond_true_right, Bool.cond_true_left, Bool.cond_false_left, Bool.and_eq_true, Bool.or_eq_true, Bool.not_eq_true', bytesLim, maxLen, List.length_cons, List.length_nil, List.length_append, byteSize_lit] at *; omega) | (intro; simp only [decide_eq_true_eq, decide_eq_false_iff_not, Bool.cond_false_right, Bool.cond_true_right, Bool.cond_true_left, Bool.cond_false_left, Bool.and_eq_true, Bool.or_eq_true, Bool.not_eq_true', bytesLim, maxLen, List.length_cons, List.length_nil, List.length_append, byteSize_lit] at *; omega)) (need_nil)))), ?_⟩
    refine ⟨fun h1 => ?_, fun h1 => ?_⟩
    · have hF : r02_SameTermsLF a1 (a0.drop i) i = true := by rw [hd]; first | exact (cond_t h1 rfl) | simp only [r02_SameTermsLF, h0, h1, cond_true, cond_false]
      unfold r02_SameTermsLT at hT
      rw [hF] at hT
      exact hT.1 rfl
    · refine ⟨need_cons (by have h9 := h1; simp only [cond_true, cond_false, Bool.cond_true_left, Bool.or_eq_false_iff, Bool.not_eq_false', decide_eq_true_eq, beq_iff_eq] at h9; omega) (need_cons (by first | assumption | omega | (intro; omega) | (simp only [decide_eq_true_eq, decide_eq_false_iff_not, Bool.cond_false_right, Bool.cond_true_right, Bool.cond_true_left, Bool.cond_false_left, Bool.and_eq_true, Bool.or_eq_true, Bool.not_eq_true', bytesLim, maxLen, List.length_cons, List.length_nil, List.length_append, byteSize_lit] at *; omega) | (intro; simp only [decide_eq_true_eq, decide_eq_false_iff_not, Bool.cond_false_right, Bool.cond_true_right, Bool.cond_true_left, Bool.cond_false_left, Bool.and_eq_true, Bool.or_eq_true, Bool.not_eq_true', bytesLim, maxLen, List.length_cons, List.length_nil, List.length_append, byteSize_lit] at *; omega)) (need_cons (by first | assumption | omega | (intro; omega) | (simp only [decide_eq_true_eq, decide_eq_false_iff_not, Bool.cond_false_right, Bool.cond_true_right, Bool.cond_true_left, Bool.cond_false_left, Bool.and_eq_true, Bool.or_eq_true, Bool.not_eq_true', bytesLim, maxLen, List.length_cons, List.length_nil, List.length_append, byteSize_lit] at *; omega) | (intro; simp only [decide_eq_true_eq, decide_eq_false_iff_not, Bool.cond_false_right, Bool.cond_true_right, Bool.cond_true_left, Bool.cond_false_left, Bool.and_eq_true, Bool.or_eq_true, Bool.not_eq_true', bytesLim, maxLen, List.length_cons, List.length_nil, List.length_append, byteSize_lit] at *; omega)) (need_cons (by exact (hp2 _ (gD_mem hlt)).2.1) (need_cons (by exact (hp2 _ (gD_mem hlt)).2.1) (need_nil))))), ?_⟩
      refine ⟨fun h2 => ?_, fun h2 => ?_⟩
      · have hF : r02_SameTermsLF a1 (a0.drop i) i = true := by rw [hd]; first | exact (cond_f h1 (cond_t h2 rfl)) | simp only [r02_SameTermsLF, h0, h1, h2, cond_true, cond_false]
        unfold r02_SameTermsLT at hT
        rw [hF] at hT
        exact hT.1 rfl
      · have hF : r02_SameTermsLF a1 (a0.drop i) i = r02_SameTermsLF a1 (a0.drop (i + 1)) (i + 1) := by rw [hd]; first | exact (cond_f h1 (cond_f h2 rfl)) | simp only [r02_SameTermsLF, h0, h1, h2, cond_true, cond_false]
        refine ⟨⟨(i + 1), by show (i + 1) ≤ a0.length; omega⟩, by show a0.length - (i + 1) < a0.length - i; omega, ?_, ?_⟩
        · show _ = r02_SameTermsLS a0 a1 (i + 1)
          unfold r02_SameTermsLS
          simp only [hw]
        · show (r02_SameTermsLT a0 a1 (i + 1)).All Q
          unfold r02_SameTermsLT at hT ⊢
          rw [hF] at hT
          exact hT
  · have hge : ¬ i < a0.length := by simpa using h0
    have hd : a0.drop i = [] := List.drop_eq_nil_of_le (by omega)
    have hF : r02_SameTermsLF a1 (a0.drop i) i = false := by rw [hd]; first | exact rfl | simp only [r02_SameTermsLF, h0, cond_true, cond_false]
    unfold r02_SameTermsLT at hT
    rw [hF] at hT
    exact hT.2 rfl
def r02_SameTermsF (a0 : List XTerm) (a1 : List XTerm) : Bool :=
  cond (!((a0.length : Int) == (a1.length : Int)))
    false
    (cond (r02_SameTermsLF a1 a0 0)
      false
      true)
def r02_SameTermsR (a0 : List XTerm) (a1 : List XTerm) : RT :=
  (.ask (!((a0.length : Int) == (a1.length : Int)))
    (.leaf .ret ⟨slots 71 [(4, .bool false)], []⟩ [])
    (.need [a0.length = a1.length]
      (.ask (r02_SameTermsLF a1 a0 0)
        (.leaf .ret ⟨slots 71 [(4, .bool false)], []⟩ [])
        (.leaf .ret ⟨slots 71 [(4, .bool true)], []⟩ []))))
theorem r02_SameTermsF_tr (a0 : List XTerm) (a1 : List XTerm) (hp0 : a0.length ≤ 4294967296) (hp1 : a1.length ≤ 4294967296) (hp2 : ∀ q ∈ a0, q.Fine) : Tr Tryd.prog 0 (bodyOf Tryd.f17) (fnBegins Tryd.f17 [.coll ⟨.term, a0⟩, .coll ⟨.term, a1⟩] []) (fnEnds Tryd.prog Tryd.f17 (.bool (r02_SameTermsF a0 a1)) []) := by
  refine Tr_tree (kok _ _ _ _ _ _) (E := E_r02_SameTerms) (L := (loopsOf [(0, r02_SameTermsLS a0 a1 0, [], .need [a0.length = a1.length] (r02_SameTermsLT a0 a1 0))])) 60 9999 (LoopsOk.one (g := loopAt Tryd.f17 0) (b := 0) (by kernel_rfl) (by kernel_rfl) (by kernel_rfl) (by kernel_rfl) (fun Q h => r02_SameTermsL_loop a0 a1 hp0 hp1 hp2 (by omega) (h.1 _ List.mem_cons_self) ⟨0, by first | exact Nat.zero_le _ | (show 0 ≤ a0.length; omega) | (show 0 ≤ a0.length; exact ⟨Nat.zero_le _, by assumption⟩) | (show 0 ≤ a0.length; simp)⟩ Q h.2)) (r02_SameTermsR a0 a1) (by kernel_rfl) (by kernel_rfl) (by kernel_rfl) ?_
  unfold r02_SameTermsR
  refine ⟨fun h0 => ?_, fun h0 => ?_⟩
  · have hF : r02_SameTermsF a0 a1 = false := by first | exact (cond_t h0 rfl) | simp only [r02_SameTermsF, h0, cond_true, cond_false]
    exact ⟨trivial, .inl (by first | (rw [hF]; kernel_rfl) | kernel_rfl), by first | (rw [hF]; kernel_rfl) | kernel_rfl⟩
  · refine ⟨need_cons (by have h9 := h0; simp only [Bool.not_eq_false', decide_eq_true_eq, beq_iff_eq] at h9; omega) (need_nil), ?_⟩
    refine ⟨fun h1 => ?_, fun h1 => ?_⟩
    · have hF : r02_SameTermsF a0 a1 = false := by first | exact (cond_f h0 (cond_t h1 rfl)) | simp only [r02_SameTermsF, h0, h1, cond_true, cond_false]
      exact ⟨trivial, .inl (by first | (rw [hF]; kernel_rfl) | kernel_rfl), by first | (rw [hF]; kernel_rfl) | kernel_rfl⟩
    · have hF : r02_SameTermsF a0 a1 = true := by first | exact (cond_f h0 (cond_f h1 rfl)) | simp only [r02_SameTermsF, h0, h1, cond_true, cond_false]
      exact ⟨trivial, .inl (by first | (rw [hF]; kernel_rfl) | kernel_rfl), by first | (rw [hF]; kernel_rfl) | kernel_rfl⟩
noncomputable def r02_SameTerms_fact : Fact Tryd.prog := factOf 17 Tryd.f17 (by kernel_rfl) rfl (by kernel_rfl) [.c (.coll .term), .c (.coll .term)] [] true (fun t u => .bool (r02_SameTermsF t.1 t.2.1)) (fun t u => []) (fun t u => [t.1.length ≤ 4294967296, t.2.1.length ≤ 4294967296, ∀ q ∈ t.1, q.Fine])
  (fun _ _ _ => rfl) (fun t u => by kernel_rfl) (fun t u => by kernel_rfl) (fun t u h => r02_SameTermsF_tr t.1 t.2.1 (h _ List.mem_cons_self) (h _ (List.mem_cons_of_mem _ List.mem_cons_self)) (h _ (List.mem_cons_of_mem _ (List.mem_cons_of_mem _ List.mem_cons_self))))
noncomputable def E_w02_refTerms : Env := envOf (P := Tryd.prog) [] [] [] ckf
def w02_refTermsLF  : List XTerm → List XTerm → List XTerm
  | [], v2 => v2
  | o :: r, v2 => w02_refTermsLF r (v2 ++ [o])
def w02_refTermsLS (a0 : List XTerm) (i : Nat) (v2 : List XTerm) : St :=
  ⟨slots 26 [(0, .coll ⟨.term, a0⟩), (3, .vec 0), (4, .int .i64 (i : Int))], [.vec true ⟨.term, v2⟩]⟩
def w02_refTermsLR (a0 : List XTerm) (i : Nat) (v2 : List XTerm) : RT :=
  (.ask (decide ((i : Int) < (a0.length : Int)))
    (.need [0 ≤ (i : Int) ∧ (i : Int) < (a0.length : Int), 0 ≤ (i : Int) ∧ (i : Int) < (a0.length : Int), (v2.length + [(a0.getD i default)].length) * 40 ≤ bytesLim ∧ v2.length + [(a0.getD i default)].length ≤ maxLen]
      (.leaf .normal ⟨slots 26 [(0, .coll ⟨.term, a0⟩), (3, .vec 0), (4, .int .i64 (IntKind.i64.wrap ((i : Int) + (1 : Int))))], [.vec true ⟨.term, (v2 ++ [(a0.getD i default)])⟩]⟩ [2]))
    (.leaf (.exit 0) ⟨slots 26 [(3, .vec 0)], [.vec true ⟨.term, v2⟩]⟩ []))
def w02_refTermsLT (a0 : List XTerm) (i : Nat) (v2 : List XTerm) : Tree :=
  .leaf (.exit 0) ⟨slots 26 [(3, .vec 0)], [.vec true ⟨.term, w02_refTermsLF (a0.drop i) v2⟩]⟩
theorem w02_refTermsL_loop (a0 : List XTerm) (hp0 : a0.length ≤ 4294967296) (hlen : a0.length < 4611686018427387904) (z : { z : Nat × List XTerm // z.1 ≤ a0.length ∧ z.2.length ≤ z.1 }) (Q : Exit → St → Prop) (h : (w02_refTermsLT a0 z.1.1 z.1.2).All Q) : Tr Tryd.prog 0 (.loop (loopAt Tryd.f18 0)) (w02_refTermsLS a0 z.1.1 z.1.2) Q := by
  refine Tr_loopT (kok _ _ _ _ _ _) (E := E_w02_refTerms) (ι := { z : Nat × List XTerm // z.1 ≤ a0.length ∧ z.2.length ≤ z.1 }) 60 0 (fun _ => noLoops) (fun z => w02_refTermsLS a0 z.1.1 z.1.2) (fun z => w02_refTermsLT a0 z.1.1 z.1.2) (fun z => w02_refTermsLR a0 z.1.1 z.1.2) (fun z => a0.length - z.1.1) (fun _ => LoopsOk.none) (fun z => by obtain ⟨⟨i, v2⟩, hi⟩ := z; kernel_rfl) (fun z => by obtain ⟨⟨i, v2⟩, hi⟩ := z; kernel_rfl) (fun z => by obtain ⟨⟨i, v2⟩, hi⟩ := z; kernel_rfl) ?_ z Q h
  rintro ⟨⟨i, v2⟩, hi⟩ Q hT
  replace hT : (w02_refTermsLT a0 i v2).All Q := hT
  replace hi : i ≤ a0.length ∧ v2.length ≤ i := hi
  show (w02_refTermsLR a0 i v2).All _
  unfold w02_refTermsLR
  refine ⟨fun h0 => ?_, fun h0 => ?_⟩
  · have hlt : i < a0.length := by simpa using h0
    have hd := drop_getD hlt
    have hw := wrap_succ (i := i) (by omega)
    refine ⟨need_cons (by first | assumption | omega | (intro; omega) | (simp only [decide_eq_true_eq, decide_eq_false_iff_not, Bool.cond_false_right, Bool.cond_true_right, Bool.cond_true_left, Bool.cond_false_left, Bool.and_eq_true, Bool.or_eq_true, Bool.not_eq_true', bytesLim, maxLen, List.length_cons, List.length_nil, List.length_append, byteSize_lit] at *; omega) | (intro; simp only [decide_eq_true_eq, decide_eq_false_iff_not, Bool.cond_false_right, Bool.cond_true_right, Bool.cond_true_left, Bool.cond_false_left, Bool.and_eq_true, Bool.or_eq_true, Bool.not_eq_true', bytesLim, maxLen, List.length_cons, List.length_nil, List.length_append, byteSize_lit] at *; omega)) (need_cons (by first | assumption | omega | (intro; omega) | (simp only [decide_eq_true_eq, decide_eq_false_iff_not, Bool.cond_false_right, Bool.cond_true_right, Bool.cond_true_left, Bool.cond_false_left, Bool.and_eq_true, Bool.or_eq_true, Bool.not_eq_true', bytesLim, maxLen, List.length_cons, List.length_nil, List.length_append, byteSize_lit] at *; omega) | (intro; simp only [decide_eq_true_eq, decide_eq_false_iff_not, Bool.cond_false_right, Bool.cond_true_right, Bool.cond_true_left, Bool.cond_false_left, Bool.and_eq_true, Bool.or_eq_true, Bool.not_eq_true', bytesLim, maxLen, List.length_cons, List.length_nil, List.length_append, byteSize_lit] at *; omega)) (need_cons (by unfold bytesLim maxLen; simp only [List.length_cons, List.length_nil]; omega) (need_nil))), ?_⟩
    have hF : w02_refTermsLF (a0.drop i) v2 = w02_refTermsLF (a0.drop (i + 1)) (v2 ++ [(a0.getD i default)]) := by rw [hd]; first | exact rfl | simp only [w02_refTermsLF, h0, cond_true, cond_false]
    refine ⟨⟨((i + 1), (v2 ++ [(a0.getD i default)])), by (first | dsimp only | skip); constructor <;> (try simp only [List.length_append, List.length_cons, List.length_nil]) <;> omega⟩, by show a0.length - (i + 1) < a0.length - i; omega, ?_, ?_⟩
    · show _ = w02_refTermsLS a0 (i + 1) (v2 ++ [(a0.getD i default)])
      unfold w02_refTermsLS
      simp only [hw]
    · show (w02_refTermsLT a0 (i + 1) (v2 ++ [(a0.getD i default)])).All Q
      unfold w02_refTermsLT at hT ⊢
      rw [hF] at hT
      exact hT
  · have hge : ¬ i < a0.length := by simpa using h0
    have hd : a0.drop i = [] := List.drop_eq_nil_of_le (by omega)
    have hF : w02_refTermsLF (a0.drop i) v2 = v2 := by rw [hd]; first | exact rfl | simp only [w02_refTermsLF, h0, cond_true, cond_false]
    unfold w02_refTermsLT at hT
    rw [hF] at hT
    exact hT
def w02_refTermsF (a0 : List XTerm) : List XTerm :=
  w02_refTermsLF a0 []
def w02_refTermsR (a0 : List XTerm) : RT :=
  (.leaf .ret ⟨slots 26 [(2, .vec 0)], [.vec true ⟨.term, w02_refTermsLF a0 []⟩]⟩ [])
theorem w02_refTermsF_tr (a0 : List XTerm) (hp0 : a0.length ≤ 4294967296) : Tr Tryd.prog 0 (bodyOf Tryd.f18) (fnBegins Tryd.f18 [.coll ⟨.term, a0⟩] []) (fnEnds Tryd.prog Tryd.f18 (.coll ⟨.term, w02_refTermsF a0⟩) []) := by
  refine Tr_tree (kok _ _ _ _ _ _) (E := E_w02_refTerms) (L := (loopsOf [(0, w02_refTermsLS a0 0 [], [1], w02_refTermsLT a0 0 [])])) 60 9999 (LoopsOk.one (g := loopAt Tryd.f18 0) (b := 0) (by kernel_rfl) (by kernel_rfl) (by kernel_rfl) (by kernel_rfl) (fun Q h => w02_refTermsL_loop a0 hp0 (by first | assumption | omega | (simp only [List.length_cons, List.length_nil, List.length_append]; omega)) ⟨(0, []), ⟨Nat.zero_le _, Nat.le_refl _⟩⟩ Q h)) (w02_refTermsR a0) (by kernel_rfl) (by kernel_rfl) (by kernel_rfl) ?_
  unfold w02_refTermsR
  exact ⟨trivial, .inr (by kernel_rfl), by kernel_rfl⟩
noncomputable def w02_refTerms_fact : Fact Tryd.prog := factOf 18 Tryd.f18 (by kernel_rfl) rfl (by kernel_rfl) [.c (.coll .term)] [] true (fun t u => .coll ⟨.term, w02_refTermsF t.1⟩) (fun t u => []) (fun t u => [t.1.length ≤ 4294967296])
  (fun _ _ _ => rfl) (fun t u => by kernel_rfl) (fun t u => by kernel_rfl) (fun t u h => w02_refTermsF_tr t.1 (h _ List.mem_cons_self))
noncomputable def E_r02_SameLabels : Env := envOf (P := Tryd.prog) [] [] [] ckf
def r02_SameLabelsLF (a1 : List XLabel) : List XLabel → Nat → Bool
  | [], i => false
  | o :: r, i => cond (!((decide ((o.key) = ((a1.getD i default).key))) && (decide ((o.value) = ((a1.getD i default).value)))))
    true
    (r02_SameLabelsLF a1 r (i + 1))
def r02_SameLabelsLS (a0 : List XLabel) (a1 : List XLabel) (i : Nat) : St :=
  ⟨slots 26 [(0, .coll ⟨.label, a0⟩), (1, .coll ⟨.label, a1⟩), (5, .int .i64 (i : Int))], []⟩
def r02_SameLabelsLR (a0 : List XLabel) (a1 : List XLabel) (i : Nat) : RT :=
  (.ask (decide ((i : Int) < (a0.length : Int)))
    (.need [0 ≤ (i : Int) ∧ (i : Int) < (a0.length : Int), 0 ≤ (i : Int) ∧ (i : Int) < (a1.length : Int)]
      (.ask (!((decide (((a0.getD i default).key) = ((a1.getD i default).key))) && (decide (((a0.getD i default).value) = ((a1.getD i default).value)))))
        (.leaf .ret ⟨slots 26 [(4, .bool false)], []⟩ [])
        (.leaf .normal ⟨slots 26 [(0, .coll ⟨.label, a0⟩), (1, .coll ⟨.label, a1⟩), (5, .int .i64 (IntKind.i64.wrap ((i : Int) + (1 : Int))))], []⟩ [])))
    (.leaf (.exit 0) ⟨slots 26 [], []⟩ []))
def r02_SameLabelsLT (a0 : List XLabel) (a1 : List XLabel) (i : Nat) : Tree :=
  .ask (r02_SameLabelsLF a1 (a0.drop i) i) (.leaf .ret ⟨slots 26 [(4, .bool false)], []⟩) (.leaf (.exit 0) ⟨slots 26 [], []⟩)
theorem r02_SameLabelsL_loop (a0 : List XLabel) (a1 : List XLabel) (hp0 : a0.length ≤ 4294967296) (hlen : a0.length < 4611686018427387904) (hn0 : a0.length = a1.length) (z : { z : Nat // z ≤ a0.length }) (Q : Exit → St → Prop) (h : (r02_SameLabelsLT a0 a1 z.1).All Q) : Tr Tryd.prog 0 (.loop (loopAt Tryd.f19 0)) (r02_SameLabelsLS a0 a1 z.1) Q := by
  refine Tr_loopT (kok _ _ _ _ _ _) (E := E_r02_SameLabels) (ι := { z : Nat // z ≤ a0.length }) 60 0 (fun _ => noLoops) (fun z => r02_SameLabelsLS a0 a1 z.1) (fun z => r02_SameLabelsLT a0 a1 z.1) (fun z => r02_SameLabelsLR a0 a1 z.1) (fun z => a0.length - z.1) (fun _ => LoopsOk.none) (fun z => by obtain ⟨i, hi⟩ := z; kernel_rfl) (fun z => by obtain ⟨i, hi⟩ := z; kernel_rfl) (fun z => by obtain ⟨i, hi⟩ := z; kernel_rfl) ?_ z Q h
  rintro ⟨i, hi⟩ Q hT
  replace hT : (r02_SameLabelsLT a0 a1 i).All Q := hT
  replace hi : i ≤ a0.length := hi
  show (r02_SameLabelsLR a0 a1 i).All _
  unfold r02_SameLabelsLR
  refine ⟨fun h0 => ?_, fun h0 => ?_⟩
  · have hlt : i < a0.length := by simpa using h0
    have hd := drop_getD hlt
    have hw := wrap_succ (i := i) (by omega)
    refine ⟨need_cons (by first | assumption | omega | (intro; omega) | (simp only [decide_eq_true_eq, decide_eq_false_iff_not, Bool.cond_false_right, Bool.cond_true_right, Bool.cond_true_left, Bool.cond_false_left, Bool.and_eq_true, Bool.or_eq_true, Bool.not_eq_true', bytesLim, maxLen, List.length_cons, List.length_nil, List.length_append, byteSize_lit] at *; omega) | (intro; simp only [decide_eq_true_eq, decide_eq_false_iff_not, Bool.cond_false_right, Bool.cond_true_right, Bool.cond_true_left, Bool.cond_false_left, Bool.and_eq_true, Bool.or_eq_true, Bool.not_eq_true', bytesLim, maxLen, List.length_cons, List.length_nil, List.length_append, byteSize_lit] at *; omega)) (need_cons (by first | assumption | omega | (intro; omega) | (simp only [decide_eq_true_eq, decide_eq_false_iff_not, Bool.cond_false_right, Bool.cond_true_right, Bool.cond_true_left, Bool.cond_false_left, Bool.and_eq_true, Bool.or_eq_true, Bool.not_eq_true', bytesLim, maxLen, List.length_cons, List.length_nil, List.length_append, byteSize_lit] at *; omega) | (intro; simp only [decide_eq_true_eq, decide_eq_false_iff_not, Bool.cond_false_right, Bool.cond_true_right, Bool.cond_true_left, Bool.cond_false_left, Bool.and_eq_true, Bool.or_eq_true, Bool.not_eq_true', bytesLim, maxLen, List.length_cons, List.length_nil, List.length_append, byteSize_lit] at *; omega)) (need_nil)), ?_⟩
    refine ⟨fun h1 => ?_, fun h1 => ?_⟩
    · have hF : r02_SameLabelsLF a1 (a0.drop i) i = true := by rw [hd]; first | exact (cond_t h1 rfl) | simp only [r02_SameLabelsLF, h0, h1, cond_true, cond_false]
      unfold r02_SameLabelsLT at hT
      rw [hF] at hT
      exact hT.1 rfl
    · have hF : r02_SameLabelsLF a1 (a0.drop i) i = r02_SameLabelsLF a1 (a0.drop (i + 1)) (i + 1) := by rw [hd]; first | exact (cond_f h1 rfl) | simp only [r02_SameLabelsLF, h0, h1, cond_true, cond_false]
      refine ⟨⟨(i + 1), by show (i + 1) ≤ a0.length; omega⟩, by show a0.length - (i + 1) < a0.length - i; omega, ?_, ?_⟩
      · show _ = r02_SameLabelsLS a0 a1 (i + 1)
        unfold r02_SameLabelsLS
        simp only [hw]
      · show (r02_SameLabelsLT a0 a1 (i + 1)).All Q
        unfold r02_SameLabelsLT at hT ⊢
        rw [hF] at hT
        exact hT
  · have hge : ¬ i < a0.length := by simpa using h0
    have hd : a0.drop i = [] := List.drop_eq_nil_of_le (by omega)
    have hF : r02_SameLabelsLF a1 (a0.drop i) i = false := by rw [hd]; first | exact rfl | simp only [r02_SameLabelsLF, h0, cond_true, cond_false]
    unfold r02_SameLabelsLT at hT
    rw [hF] at hT
    exact hT.2 rfl
def r02_SameLabelsF (a0 : List XLabel) (a1 : List XLabel) : Bool :=
  cond (!((a0.length : Int) == (a1.length : Int)))
    false
    (cond (r02_SameLabelsLF a1 a0 0)
      false
      true)
def r02_SameLabelsR (a0 : List XLabel) (a1 : List XLabel) : RT :=
  (.ask (!((a0.length : Int) == (a1.length : Int)))
    (.leaf .ret ⟨slots 26 [(4, .bool false)], []⟩ [])
    (.need [a0.length = a1.length]
      (.ask (r02_SameLabelsLF a1 a0 0)
        (.leaf .ret ⟨slots 26 [(4, .bool false)], []⟩ [])
        (.leaf .ret ⟨slots 26 [(4, .bool true)], []⟩ []))))
theorem r02_SameLabelsF_tr (a0 : List XLabel) (a1 : List XLabel) (hp0 : a0.length ≤ 4294967296) : Tr Tryd.prog 0 (bodyOf Tryd.f19) (fnBegins Tryd.f19 [.coll ⟨.label, a0⟩, .coll ⟨.label, a1⟩] []) (fnEnds Tryd.prog Tryd.f19 (.bool (r02_SameLabelsF a0 a1)) []) := by
  refine Tr_tree (kok _ _ _ _ _ _) (E := E_r02_SameLabels) (L := (loopsOf [(0, r02_SameLabelsLS a0 a1 0, [], .need [a0.length = a1.length] (r02_SameLabelsLT a0 a1 0))])) 60 9999 (LoopsOk.one (g := loopAt Tryd.f19 0) (b := 0) (by kernel_rfl) (by kernel_rfl) (by kernel_rfl) (by kernel_rfl) (fun Q h => r02_SameLabelsL_loop a0 a1 hp0 (by omega) (h.1 _ List.mem_cons_self) ⟨0, by first | exact Nat.zero_le _ | (show 0 ≤ a0.length; omega) | (show 0 ≤ a0.length; exact ⟨Nat.zero_le _, by assumption⟩) | (show 0 ≤ a0.length; simp)⟩ Q h.2)) (r02_SameLabelsR a0 a1) (by kernel_rfl) (by kernel_rfl) (by kernel_rfl) ?_
  unfold r02_SameLabelsR
  refine ⟨fun h0 => ?_, fun h0 => ?_⟩
  · have hF : r02_SameLabelsF a0 a1 = false := by first | exact (cond_t h0 rfl) | simp only [r02_SameLabelsF, h0, cond_true, cond_false]
    exact ⟨trivial, .inl (by first | (rw [hF]; kernel_rfl) | kernel_rfl), by first | (rw [hF]; kernel_rfl) | kernel_rfl⟩
  · refine ⟨need_cons (by have h9 := h0; simp only [Bool.not_eq_false', decide_eq_true_eq, beq_iff_eq] at h9; omega) (need_nil), ?_⟩
    refine ⟨fun h1 => ?_, fun h1 => ?_⟩
    · have hF : r02_SameLabelsF a0 a1 = false := by first | exact (cond_f h0 (cond_t h1 rfl)) | simp only [r02_SameLabelsF, h0, h1, cond_true, cond_false]
      exact ⟨trivial, .inl (by first | (rw [hF]; kernel_rfl) | kernel_rfl), by first | (rw [hF]; kernel_rfl) | kernel_rfl⟩
    · have hF : r02_SameLabelsF a0 a1 = true := by first | exact (cond_f h0 (cond_f h1 rfl)) | simp only [r02_SameLabelsF, h0, h1, cond_true, cond_false]
      exact ⟨trivial, .inl (by first | (rw [hF]; kernel_rfl) | kernel_rfl), by first | (rw [hF]; kernel_rfl) | kernel_rfl⟩
noncomputable def r02_SameLabels_fact : Fact Tryd.prog := factOf 19 Tryd.f19 (by kernel_rfl) rfl (by kernel_rfl) [.c (.coll .label), .c (.coll .label)] [] true (fun t u => .bool (r02_SameLabelsF t.1 t.2.1)) (fun t u => []) (fun t u => [t.1.length ≤ 4294967296])
  (fun _ _ _ => rfl) (fun t u => by kernel_rfl) (fun t u => by kernel_rfl) (fun t u h => r02_SameLabelsF_tr t.1 t.2.1 (h _ List.mem_cons_self))
noncomputable def E_w02_refLabels : Env := envOf (P := Tryd.prog) [] [] [] ckf
def w02_refLabelsLF  : List XLabel → List XLabel → List XLabel
  | [], v2 => v2
  | o :: r, v2 => w02_refLabelsLF r (v2 ++ [o])
def w02_refLabelsLS (a0 : List XLabel) (i : Nat) (v2 : List XLabel) : St :=
  ⟨slots 26 [(0, .coll ⟨.label, a0⟩), (3, .vec 0), (4, .int .i64 (i : Int))], [.vec true ⟨.label, v2⟩]⟩
def w02_refLabelsLR (a0 : List XLabel) (i : Nat) (v2 : List XLabel) : RT :=
  (.ask (decide ((i : Int) < (a0.length : Int)))
    (.need [0 ≤ (i : Int) ∧ (i : Int) < (a0.length : Int), 0 ≤ (i : Int) ∧ (i : Int) < (a0.length : Int), (v2.length + [(a0.getD i default)].length) * 32 ≤ bytesLim ∧ v2.length + [(a0.getD i default)].length ≤ maxLen]
      (.leaf .normal ⟨slots 26 [(0, .coll ⟨.label, a0⟩), (3, .vec 0), (4, .int .i64 (IntKind.i64.wrap ((i : Int) + (1 : Int))))], [.vec true ⟨.label, (v2 ++ [(a0.getD i default)])⟩]⟩ [2]))
    (.leaf (.exit 0) ⟨slots 26 [(3, .vec 0)], [.vec true ⟨.label, v2⟩]⟩ []))
def w02_refLabelsLT (a0 : List XLabel) (i : Nat) (v2 : List XLabel) : Tree :=
  .leaf (.exit 0) ⟨slots 26 [(3, .vec 0)], [.vec true ⟨.label, w02_refLabelsLF (a0.drop i) v2⟩]⟩
theorem w02_refLabelsL_loop (a0 : List XLabel) (hp0 : a0.length ≤ 4294967296) (hlen : a0.length < 4611686018427387904) (z : { z : Nat × List XLabel // z.1 ≤ a0.length ∧ z.2.length ≤ z.1 }) (Q : Exit → St → Prop) (h : (w02_refLabelsLT a0 z.1.1 z.1.2).All Q) : Tr Tryd.prog 0 (.loop (loopAt Tryd.f20 0)) (w02_refLabelsLS a0 z.1.1 z.1.2) Q := by
  refine Tr_loopT (kok _ _ _ _ _ _) (E := E_w02_refLabels) (ι := { z : Nat × List XLabel // z.1 ≤ a0.length ∧ z.2.length ≤ z.1 }) 60 0 (fun _ => noLoops) (fun z => w02_refLabelsLS a0 z.1.1 z.1.2) (fun z => w02_refLabelsLT a0 z.1.1 z.1.2) (fun z => w02_refLabelsLR a0 z.1.1 z.1.2) (fun z => a0.length - z.1.1) (fun _ => LoopsOk.none) (fun z => by obtain ⟨⟨i, v2⟩, hi⟩ := z; kernel_rfl) (fun z => by obtain ⟨⟨i, v2⟩, hi⟩ := z; kernel_rfl) (fun z => by obtain ⟨⟨i, v2⟩, hi⟩ := z; kernel_rfl) ?_ z Q h
  rintro ⟨⟨i, v2⟩, hi⟩ Q hT
  replace hT : (w02_refLabelsLT a0 i v2).All Q := hT
  replace hi : i ≤ a0.length ∧ v2.length ≤ i := hi
  show (w02_refLabelsLR a0 i v2).All _
  unfold w02_refLabelsLR
  refine ⟨fun h0 => ?_, fun h0 => ?_⟩
  · have hlt : i < a0.length := by simpa using h0
    have hd := drop_getD hlt
    have hw := wrap_succ (i := i) (by omega)
    refine ⟨need_cons (by first | assumption | omega | (intro; omega) | (simp only [decide_eq_true_eq, decide_eq_false_iff_not, Bool.cond_false_right, Bool.cond_true_right, Bool.cond_true_left, Bool.cond_false_left, Bool.and_eq_true, Bool.or_eq_true, Bool.not_eq_true', bytesLim, maxLen, List.length_cons, List.length_nil, List.length_append, byteSize_lit] at *; omega) | (intro; simp only [decide_eq_true_eq, decide_eq_false_iff_not, Bool.cond_false_right, Bool.cond_true_right, Bool.cond_true_left, Bool.cond_false_left, Bool.and_eq_true, Bool.or_eq_true, Bool.not_eq_true', bytesLim, maxLen, List.length_cons, List.length_nil, List.length_append, byteSize_lit] at *; omega)) (need_cons (by first | assumption | omega | (intro; omega) | (simp only [decide_eq_true_eq, decide_eq_false_iff_not, Bool.cond_false_right, Bool.cond_true_right, Bool.cond_true_left, Bool.cond_false_left, Bool.and_eq_true, Bool.or_eq_true, Bool.not_eq_true', bytesLim, maxLen, List.length_cons, List.length_nil, List.length_append, byteSize_lit] at *; omega) | (intro; simp only [decide_eq_true_eq, decide_eq_false_iff_not, Bool.cond_false_right, Bool.cond_true_right, Bool.cond_true_left, Bool.cond_false_left, Bool.and_eq_true, Bool.or_eq_true, Bool.not_eq_true', bytesLim, maxLen, List.length_cons, List.length_nil, List.length_append, byteSize_lit] at *; omega)) (need_cons (by unfold bytesLim maxLen; simp only [List.length_cons, List.length_nil]; omega) (need_nil))), ?_⟩
    have hF : w02_refLabelsLF (a0.drop i) v2 = w02_refLabelsLF (a0.drop (i + 1)) (v2 ++ [(a0.getD i default)]) := by rw [hd]; first | exact rfl | simp only [w02_refLabelsLF, h0, cond_true, cond_false]
    refine ⟨⟨((i + 1), (v2 ++ [(a0.getD i default)])), by (first | dsimp only | skip); constructor <;> (try simp only [List.length_append, List.length_cons, List.length_nil]) <;> omega⟩, by show a0.length - (i + 1) < a0.length - i; omega, ?_, ?_⟩
    · show _ = w02_refLabelsLS a0 (i + 1) (v2 ++ [(a0.getD i default)])
      unfold w02_refLabelsLS
      simp only [hw]
    · show (w02_refLabelsLT a0 (i + 1) (v2 ++ [(a0.getD i default)])).All Q
      unfold w02_refLabelsLT at hT ⊢
      rw [hF] at hT
      exact hT
  · have hge : ¬ i < a0.length := by simpa using h0
    have hd : a0.drop i = [] := List.drop_eq_nil_of_le (by omega)
    have hF : w02_refLabelsLF (a0.drop i) v2 = v2 := by rw [hd]; first | exact rfl | simp only [w02_refLabelsLF, h0, cond_true, cond_false]
    unfold w02_refLabelsLT at hT
    rw [hF] at hT
    exact hT
def w02_refLabelsF (a0 : List XLabel) : List XLabel :=
  w02_refLabelsLF a0 []
def w02_refLabelsR (a0 : List XLabel) : RT :=
  (.leaf .ret ⟨slots 26 [(2, .vec 0)], [.vec true ⟨.label, w02_refLabelsLF a0 []⟩]⟩ [])
theorem w02_refLabelsF_tr (a0 : List XLabel) (hp0 : a0.length ≤ 4294967296) : Tr Tryd.prog 0 (bodyOf Tryd.f20) (fnBegins Tryd.f20 [.coll ⟨.label, a0⟩] []) (fnEnds Tryd.prog Tryd.f20 (.coll ⟨.label, w02_refLabelsF a0⟩) []) := by
  refine Tr_tree (kok _ _ _ _ _ _) (E := E_w02_refLabels) (L := (loopsOf [(0, w02_refLabelsLS a0 0 [], [1], w02_refLabelsLT a0 0 [])])) 60 9999 (LoopsOk.one (g := loopAt Tryd.f20 0) (b := 0) (by kernel_rfl) (by kernel_rfl) (by kernel_rfl) (by kernel_rfl) (fun Q h => w02_refLabelsL_loop a0 hp0 (by first | assumption | omega | (simp only [List.length_cons, List.length_nil, List.length_append]; omega)) ⟨(0, []), ⟨Nat.zero_le _, Nat.le_refl _⟩⟩ Q h)) (w02_refLabelsR a0) (by kernel_rfl) (by kernel_rfl) (by kernel_rfl) ?_
  unfold w02_refLabelsR
  exact ⟨trivial, .inr (by kernel_rfl), by kernel_rfl⟩
noncomputable def w02_refLabels_fact : Fact Tryd.prog := factOf 20 Tryd.f20 (by kernel_rfl) rfl (by kernel_rfl) [.c (.coll .label)] [] true (fun t u => .coll ⟨.label, w02_refLabelsF t.1⟩) (fun t u => []) (fun t u => [t.1.length ≤ 4294967296])
  (fun _ _ _ => rfl) (fun t u => by kernel_rfl) (fun t u => by kernel_rfl) (fun t u h => w02_refLabelsF_tr t.1 (h _ List.mem_cons_self))
end Go.Proofs.YtbjlmmeabonbpaaDoor
