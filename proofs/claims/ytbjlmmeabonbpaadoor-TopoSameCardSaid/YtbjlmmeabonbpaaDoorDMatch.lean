/- Topo: matching. -/
import Derived.Test.YtbjlmmeabonbpaaDoorDWord
set_option linter.unusedVariables false
set_option linter.unusedSimpArgs false
set_option maxRecDepth 100000
namespace Go.Proofs.YtbjlmmeabonbpaaDoor
open Go Go.Eng
noncomputable def E_w02_small : Env := envOf (P := Tryd.prog) [] [] [] ckf
def w02_smallLF  : List XTerm → Bool
  | [] => false
  | o :: r => cond (decide (((o.values).length : Int) > (30 : Int)))
    true
    (w02_smallLF r)
def w02_smallLS (a0 : List XTerm) (i : Nat) : St :=
  ⟨slots 20 [(0, .coll ⟨.term, a0⟩), (3, .int .i64 (i : Int))], []⟩
def w02_smallLR (a0 : List XTerm) (i : Nat) : RT :=
  (.ask (decide ((i : Int) < (a0.length : Int)))
    (.need [0 ≤ (i : Int) ∧ (i : Int) < (a0.length : Int)]
      (.ask (decide ((((a0.getD i default).values).length : Int) > (30 : Int)))
        (.leaf .ret ⟨slots 20 [(2, .bool false)], []⟩ [])
        (.leaf .normal ⟨slots 20 [(0, .coll ⟨.term, a0⟩), (3, .int .i64 (IntKind.i64.wrap ((i : Int) + (1 : Int))))], []⟩ [])))
    (.leaf (.exit 0) ⟨slots 20 [], []⟩ []))
def w02_smallLT (a0 : List XTerm) (i : Nat) : Tree :=
  .ask (w02_smallLF (a0.drop i)) (.leaf .ret ⟨slots 20 [(2, .bool false)], []⟩) (.leaf (.exit 0) ⟨slots 20 [], []⟩)
theorem w02_smallL_loop (a0 : List XTerm) (hp0 : a0.length < 4611686018427387904) (hlen : a0.length < 4611686018427387904) (z : { z : Nat // z ≤ a0.length }) (Q : Exit → St → Prop) (h : (w02_smallLT a0 z.1).All Q) : Tr Tryd.prog 0 (.loop (loopAt Tryd.f23 0)) (w02_smallLS a0 z.1) Q := by
  refine Tr_loopT (kok _ _ _ _ _ _) (E := E_w02_small) (ι := { z : Nat // z ≤ a0.length }) 60 0 (fun _ => noLoops) (fun z => w02_smallLS a0 z.1) (fun z => w02_smallLT a0 z.1) (fun z => w02_smallLR a0 z.1) (fun z => a0.length - z.1) (fun _ => LoopsOk.none) (fun z => by obtain ⟨i, hi⟩ := z; kernel_rfl) (fun z => by obtain ⟨i, hi⟩ := z; kernel_rfl) (fun z => by obtain ⟨i, hi⟩ := z; kernel_rfl) ?_ z Q h
  rintro ⟨i, hi⟩ Q hT
  replace hT : (w02_smallLT a0 i).All Q := hT
  replace hi : i ≤ a0.length := hi
  show (w02_smallLR a0 i).All _
  unfold w02_smallLR
  refine ⟨fun h0 => ?_, fun h0 => ?_⟩
  · have hlt : i < a0.length := by simpa using h0
    have hd := drop_getD hlt
    have hw := wrap_succ (i := i) (by omega)
    refine ⟨need_cons (by first | assumption | omega | (intro; omega) | (simp only [decide_eq_true_eq, decide_eq_false_iff_not, Bool.cond_false_right, Bool.cond_true_right, Bool.cond_true_left, Bool.cond_false_left, Bool.and_eq_true, Bool.or_eq_true, Bool.not_eq_true', bytesLim, maxLen, List.length_cons, List.length_nil, List.length_append, byteSize_lit] at *; omega) | (intro; simp only [decide_eq_true_eq, decide_eq_false_iff_not, Bool.cond_false_right, Bool.cond_true_right, Bool.cond_true_left, Bool.cond_false_left, Bool.and_eq_true, Bool.or_eq_true, Bool.not_eq_true', bytesLim, maxLen, List.length_cons, List.length_nil, List.length_append, byteSize_lit] at *; omega)) (need_nil), ?_⟩
    refine ⟨fun h1 => ?_, fun h1 => ?_⟩
    · have hF : w02_smallLF (a0.drop i) = true := by rw [hd]; first | exact (cond_t h1 rfl) | simp only [w02_smallLF, h0, h1, cond_true, cond_false]
      unfold w02_smallLT at hT
      rw [hF] at hT
      exact hT.1 rfl
    · have hF : w02_smallLF (a0.drop i) = w02_smallLF (a0.drop (i + 1)) := by rw [hd]; first | exact (cond_f h1 rfl) | simp only [w02_smallLF, h0, h1, cond_true, cond_false]
      refine ⟨⟨(i + 1), by show (i + 1) ≤ a0.length; omega⟩, by show a0.length - (i + 1) < a0.length - i; omega, ?_, ?_⟩
      · show _ = w02_smallLS a0 (i + 1)
        unfold w02_smallLS
        simp only [hw]
      · show (w02_smallLT a0 (i + 1)).All Q
        unfold w02_smallLT at hT ⊢
        rw [hF] at hT
        exact hT
  · have hge : ¬ i < a0.length := by simpa using h0
    have hd : a0.drop i = [] := List.drop_eq_nil_of_le (by omega)
    have hF : w02_smallLF (a0.drop i) = false := by rw [hd]; first | exact rfl | simp only [w02_smallLF, h0, cond_true, cond_false]
    unfold w02_smallLT at hT
    rw [hF] at hT
    exact hT.2 rfl
def w02_smallF (a0 : List XTerm) : Bool :=
  cond (decide ((a0.length : Int) > (30 : Int)))
    false
    (cond (w02_smallLF a0)
      false
      true)
def w02_smallR (a0 : List XTerm) : RT :=
  (.ask (decide ((a0.length : Int) > (30 : Int)))
    (.leaf .ret ⟨slots 20 [(2, .bool false)], []⟩ [])
    (.ask (w02_smallLF a0)
      (.leaf .ret ⟨slots 20 [(2, .bool false)], []⟩ [])
      (.leaf .ret ⟨slots 20 [(2, .bool true)], []⟩ [])))
theorem w02_smallF_tr (a0 : List XTerm) (hp0 : a0.length < 4611686018427387904) : Tr Tryd.prog 0 (bodyOf Tryd.f23) (fnBegins Tryd.f23 [.coll ⟨.term, a0⟩] []) (fnEnds Tryd.prog Tryd.f23 (.bool (w02_smallF a0)) []) := by
  refine Tr_tree (kok _ _ _ _ _ _) (E := E_w02_small) (L := (loopsOf [(0, w02_smallLS a0 0, [], w02_smallLT a0 0)])) 60 9999 (LoopsOk.one (g := loopAt Tryd.f23 0) (b := 0) (by kernel_rfl) (by kernel_rfl) (by kernel_rfl) (by kernel_rfl) (fun Q h => w02_smallL_loop a0 hp0 (by first | assumption | omega | (simp only [List.length_cons, List.length_nil, List.length_append]; omega)) ⟨0, by first | exact Nat.zero_le _ | (show 0 ≤ a0.length; omega) | (show 0 ≤ a0.length; exact ⟨Nat.zero_le _, by assumption⟩) | (show 0 ≤ a0.length; simp)⟩ Q h)) (w02_smallR a0) (by kernel_rfl) (by kernel_rfl) (by kernel_rfl) ?_
  unfold w02_smallR
  refine ⟨fun h0 => ?_, fun h0 => ?_⟩
  · have hF : w02_smallF a0 = false := by first | exact (cond_t h0 rfl) | simp only [w02_smallF, h0, cond_true, cond_false]
    exact ⟨trivial, .inl (by first | (rw [hF]; kernel_rfl) | kernel_rfl), by first | (rw [hF]; kernel_rfl) | kernel_rfl⟩
  · refine ⟨fun h1 => ?_, fun h1 => ?_⟩
    · have hF : w02_smallF a0 = false := by first | exact (cond_f h0 (cond_t h1 rfl)) | simp only [w02_smallF, h0, h1, cond_true, cond_false]
      exact ⟨trivial, .inl (by first | (rw [hF]; kernel_rfl) | kernel_rfl), by first | (rw [hF]; kernel_rfl) | kernel_rfl⟩
    · have hF : w02_smallF a0 = true := by first | exact (cond_f h0 (cond_f h1 rfl)) | simp only [w02_smallF, h0, h1, cond_true, cond_false]
      exact ⟨trivial, .inl (by first | (rw [hF]; kernel_rfl) | kernel_rfl), by first | (rw [hF]; kernel_rfl) | kernel_rfl⟩
noncomputable def w02_small_fact : Fact Tryd.prog := factOf 23 Tryd.f23 (by kernel_rfl) rfl (by kernel_rfl) [.c (.coll .term)] [] true (fun t u => .bool (w02_smallF t.1)) (fun t u => []) (fun t u => [t.1.length < 4611686018427387904])
  (fun _ _ _ => rfl) (fun t u => by kernel_rfl) (fun t u => by kernel_rfl) (fun t u h => w02_smallF_tr t.1 (h _ List.mem_cons_self))
noncomputable def E_slices_Index_string_string : Env := envOf (P := Tryd.prog) [] [] [] ckf
def slices_Index_string_stringLF (a1 : ByteArray) : List ByteArray → Nat → Bool × Int
  | [], i => (false, default)
  | o :: r, i => cond (decide (a1 = o))
    (true, (i : Int))
    (slices_Index_string_stringLF a1 r (i + 1))
def slices_Index_string_stringLS (a0 : List ByteArray) (a1 : ByteArray) (i : Nat) : St :=
  ⟨slots 19 [(0, .coll ⟨.str, a0⟩), (1, .str a1), (7, .int .i64 (a0.length : Int)), (8, .int .i64 (i : Int))], []⟩
def slices_Index_string_stringLR (a0 : List ByteArray) (a1 : ByteArray) (i : Nat) : RT :=
  (.ask (decide ((i : Int) < (a0.length : Int)))
    (.need [0 ≤ (i : Int) ∧ (i : Int) < (a0.length : Int)]
      (.ask (decide (a1 = (a0.getD i default)))
        (.leaf .ret ⟨slots 19 [(4, .int .i64 (i : Int))], []⟩ [])
        (.leaf .normal ⟨slots 19 [(0, .coll ⟨.str, a0⟩), (1, .str a1), (7, .int .i64 (a0.length : Int)), (8, .int .i64 (IntKind.i64.wrap ((i : Int) + (1 : Int))))], []⟩ [])))
    (.leaf (.exit 0) ⟨slots 19 [], []⟩ []))
def slices_Index_string_stringLT (a0 : List ByteArray) (a1 : ByteArray) (i : Nat) : Tree :=
  .ask ((slices_Index_string_stringLF a1 (a0.drop i) i).1) (.leaf .ret ⟨slots 19 [(4, .int .i64 ((slices_Index_string_stringLF a1 (a0.drop i) i).2))], []⟩) (.leaf (.exit 0) ⟨slots 19 [], []⟩)
theorem slices_Index_string_stringL_loop (a0 : List ByteArray) (a1 : ByteArray) (hp0 : a0.length < 4611686018427387904) (hlen : a0.length < 4611686018427387904) (z : { z : Nat // z ≤ a0.length }) (Q : Exit → St → Prop) (h : (slices_Index_string_stringLT a0 a1 z.1).All Q) : Tr Tryd.prog 0 (.loop (loopAt Tryd.f75 0)) (slices_Index_string_stringLS a0 a1 z.1) Q := by
  refine Tr_loopT (kok _ _ _ _ _ _) (E := E_slices_Index_string_string) (ι := { z : Nat // z ≤ a0.length }) 60 0 (fun _ => noLoops) (fun z => slices_Index_string_stringLS a0 a1 z.1) (fun z => slices_Index_string_stringLT a0 a1 z.1) (fun z => slices_Index_string_stringLR a0 a1 z.1) (fun z => a0.length - z.1) (fun _ => LoopsOk.none) (fun z => by obtain ⟨i, hi⟩ := z; kernel_rfl) (fun z => by obtain ⟨i, hi⟩ := z; kernel_rfl) (fun z => by obtain ⟨i, hi⟩ := z; kernel_rfl) ?_ z Q h
  rintro ⟨i, hi⟩ Q hT
  replace hT : (slices_Index_string_stringLT a0 a1 i).All Q := hT
  replace hi : i ≤ a0.length := hi
  show (slices_Index_string_stringLR a0 a1 i).All _
  unfold slices_Index_string_stringLR
  refine ⟨fun h0 => ?_, fun h0 => ?_⟩
  · have hlt : i < a0.length := by simpa using h0
    have hd := drop_getD hlt
    have hw := wrap_succ (i := i) (by omega)
    refine ⟨need_cons (by first | assumption | omega | (intro; omega) | (simp only [decide_eq_true_eq, decide_eq_false_iff_not, Bool.cond_false_right, Bool.cond_true_right, Bool.cond_true_left, Bool.cond_false_left, Bool.and_eq_true, Bool.or_eq_true, Bool.not_eq_true', bytesLim, maxLen, List.length_cons, List.length_nil, List.length_append, byteSize_lit] at *; omega) | (intro; simp only [decide_eq_true_eq, decide_eq_false_iff_not, Bool.cond_false_right, Bool.cond_true_right, Bool.cond_true_left, Bool.cond_false_left, Bool.and_eq_true, Bool.or_eq_true, Bool.not_eq_true', bytesLim, maxLen, List.length_cons, List.length_nil, List.length_append, byteSize_lit] at *; omega)) (need_nil), ?_⟩
    refine ⟨fun h1 => ?_, fun h1 => ?_⟩
    · have hF : slices_Index_string_stringLF a1 (a0.drop i) i = (true, (i : Int)) := by rw [hd]; first | exact (cond_t h1 rfl) | simp only [slices_Index_string_stringLF, h0, h1, cond_true, cond_false]
      unfold slices_Index_string_stringLT at hT
      rw [hF] at hT
      exact hT.1 rfl
    · have hF : slices_Index_string_stringLF a1 (a0.drop i) i = slices_Index_string_stringLF a1 (a0.drop (i + 1)) (i + 1) := by rw [hd]; first | exact (cond_f h1 rfl) | simp only [slices_Index_string_stringLF, h0, h1, cond_true, cond_false]
      refine ⟨⟨(i + 1), by show (i + 1) ≤ a0.length; omega⟩, by show a0.length - (i + 1) < a0.length - i; omega, ?_, ?_⟩
      · show _ = slices_Index_string_stringLS a0 a1 (i + 1)
        unfold slices_Index_string_stringLS
        simp only [hw]
      · show (slices_Index_string_stringLT a0 a1 (i + 1)).All Q
        unfold slices_Index_string_stringLT at hT ⊢
        rw [hF] at hT
        exact hT
  · have hge : ¬ i < a0.length := by simpa using h0
    have hd : a0.drop i = [] := List.drop_eq_nil_of_le (by omega)
    have hF : slices_Index_string_stringLF a1 (a0.drop i) i = (false, default) := by rw [hd]; first | exact rfl | simp only [slices_Index_string_stringLF, h0, cond_true, cond_false]
    unfold slices_Index_string_stringLT at hT
    rw [hF] at hT
    exact hT.2 rfl
def slices_Index_string_stringF (a0 : List ByteArray) (a1 : ByteArray) : Int :=
  cond ((slices_Index_string_stringLF a1 a0 0).1)
    ((slices_Index_string_stringLF a1 a0 0).2)
    (-1 : Int)
def slices_Index_string_stringR (a0 : List ByteArray) (a1 : ByteArray) : RT :=
  (.ask ((slices_Index_string_stringLF a1 a0 0).1)
    (.leaf .ret ⟨slots 19 [(4, .int .i64 ((slices_Index_string_stringLF a1 a0 0).2))], []⟩ [])
    (.leaf .ret ⟨slots 19 [(4, .int .i64 (-1))], []⟩ []))
theorem slices_Index_string_stringF_tr (a0 : List ByteArray) (a1 : ByteArray) (hp0 : a0.length < 4611686018427387904) : Tr Tryd.prog 0 (bodyOf Tryd.f75) (fnBegins Tryd.f75 [.coll ⟨.str, a0⟩, .str a1] []) (fnEnds Tryd.prog Tryd.f75 (.int .i64 (slices_Index_string_stringF a0 a1)) []) := by
  refine Tr_tree (kok _ _ _ _ _ _) (E := E_slices_Index_string_string) (L := (loopsOf [(0, slices_Index_string_stringLS a0 a1 0, [], slices_Index_string_stringLT a0 a1 0)])) 60 9999 (LoopsOk.one (g := loopAt Tryd.f75 0) (b := 0) (by kernel_rfl) (by kernel_rfl) (by kernel_rfl) (by kernel_rfl) (fun Q h => slices_Index_string_stringL_loop a0 a1 hp0 (by first | assumption | omega | (simp only [List.length_cons, List.length_nil, List.length_append]; omega)) ⟨0, by first | exact Nat.zero_le _ | (show 0 ≤ a0.length; omega) | (show 0 ≤ a0.length; exact ⟨Nat.zero_le _, by assumption⟩) | (show 0 ≤ a0.length; simp)⟩ Q h)) (slices_Index_string_stringR a0 a1) (by kernel_rfl) (by kernel_rfl) (by kernel_rfl) ?_
  unfold slices_Index_string_stringR
  refine ⟨fun h0 => ?_, fun h0 => ?_⟩
  · have hF : slices_Index_string_stringF a0 a1 = ((slices_Index_string_stringLF a1 a0 0).2) := by first | exact (cond_t h0 rfl) | simp only [slices_Index_string_stringF, h0, cond_true, cond_false]
    exact ⟨trivial, .inl (by first | (rw [hF]; kernel_rfl) | kernel_rfl), by first | (rw [hF]; kernel_rfl) | kernel_rfl⟩
  · have hF : slices_Index_string_stringF a0 a1 = (-1 : Int) := by first | exact (cond_f h0 rfl) | simp only [slices_Index_string_stringF, h0, cond_true, cond_false]
    exact ⟨trivial, .inl (by first | (rw [hF]; kernel_rfl) | kernel_rfl), by first | (rw [hF]; kernel_rfl) | kernel_rfl⟩
noncomputable def slices_Index_string_string_fact : Fact Tryd.prog := factOf 75 Tryd.f75 (by kernel_rfl) rfl (by kernel_rfl) [.c (.coll .str), .c (.str)] [] true (fun t u => .int .i64 (slices_Index_string_stringF t.1 t.2.1)) (fun t u => []) (fun t u => [t.1.length < 4611686018427387904])
  (fun _ _ _ => rfl) (fun t u => by kernel_rfl) (fun t u => by kernel_rfl) (fun t u h => slices_Index_string_stringF_tr t.1 t.2.1 (h _ List.mem_cons_self))
noncomputable def E_slices_Contains_string_string : Env := envOf (P := Tryd.prog) [slices_Index_string_string_fact] [] [] ckf
def slices_Contains_string_stringF (a0 : List ByteArray) (a1 : ByteArray) : Bool :=
  decide ((slices_Index_string_stringF a0 a1) ≥ (0 : Int))
def slices_Contains_string_stringR (a0 : List ByteArray) (a1 : ByteArray) : RT :=
  (.need [a0.length < 4611686018427387904]
    (.leaf .ret ⟨slots 9 [(4, .bool (decide ((slices_Index_string_stringF a0 a1) ≥ (0 : Int))))], []⟩ []))
theorem slices_Contains_string_stringF_tr (a0 : List ByteArray) (a1 : ByteArray) (hp0 : a0.length < 4611686018427387904) : Tr Tryd.prog 0 (bodyOf Tryd.f45) (fnBegins Tryd.f45 [.coll ⟨.str, a0⟩, .str a1] []) (fnEnds Tryd.prog Tryd.f45 (.bool (slices_Contains_string_stringF a0 a1)) []) := by
  refine Tr_tree (kok _ _ _ _ _ _) (E := E_slices_Contains_string_string) (L := noLoops) 60 9999 LoopsOk.none (slices_Contains_string_stringR a0 a1) (by kernel_rfl) (by kernel_rfl) (by kernel_rfl) ?_
  unfold slices_Contains_string_stringR
  refine ⟨need_cons (by first | assumption | omega | (intro; omega) | (simp only [decide_eq_true_eq, decide_eq_false_iff_not, Bool.cond_false_right, Bool.cond_true_right, Bool.cond_true_left, Bool.cond_false_left, Bool.and_eq_true, Bool.or_eq_true, Bool.not_eq_true', bytesLim, maxLen, List.length_cons, List.length_nil, List.length_append, byteSize_lit] at *; omega) | (intro; simp only [decide_eq_true_eq, decide_eq_false_iff_not, Bool.cond_false_right, Bool.cond_true_right, Bool.cond_true_left, Bool.cond_false_left, Bool.and_eq_true, Bool.or_eq_true, Bool.not_eq_true', bytesLim, maxLen, List.length_cons, List.length_nil, List.length_append, byteSize_lit] at *; omega)) (need_nil), ?_⟩
  exact ⟨trivial, .inl (by kernel_rfl), by kernel_rfl⟩
noncomputable def slices_Contains_string_string_fact : Fact Tryd.prog := factOf 45 Tryd.f45 (by kernel_rfl) rfl (by kernel_rfl) [.c (.coll .str), .c (.str)] [] true (fun t u => .bool (slices_Contains_string_stringF t.1 t.2.1)) (fun t u => []) (fun t u => [t.1.length < 4611686018427387904])
  (fun _ _ _ => rfl) (fun t u => by kernel_rfl) (fun t u => by kernel_rfl) (fun t u h => slices_Contains_string_stringF_tr t.1 t.2.1 (h _ List.mem_cons_self))
noncomputable def E_topo_Match_1 : Env := envOf (P := Tryd.prog) [slices_Contains_string_string_fact] [] [] ckf
def topo_Match_1F (a0 : XLabel) (b0_0 : ByteArray) (b0_1 : List ByteArray) : Bool :=
  cond (decide (a0.key = b0_0)) (slices_Contains_string_stringF b0_1 a0.value) false
def topo_Match_1R (a0 : XLabel) (b0_0 : ByteArray) (b0_1 : List ByteArray) : RT :=
  (.need [((decide (a0.key = b0_0)) = true) → (b0_1.length < 4611686018427387904)]
    (.leaf .ret ⟨slots 16 [(3, .bool (cond (decide (a0.key = b0_0)) (slices_Contains_string_stringF b0_1 a0.value) false))], [.cells 66 [.str b0_0, .coll ⟨.str, b0_1⟩]]⟩ []))
theorem topo_Match_1F_tr (a0 : XLabel) (b0_0 : ByteArray) (b0_1 : List ByteArray) (hp0 : b0_1.length < 4611686018427387904) : Tr Tryd.prog 1 (bodyOf Tryd.f44) (fnBegins Tryd.f44 [.agg [.str a0.key, .str a0.value], .ptr 0 0] [.cells 66 [.str b0_0, .coll ⟨.str, b0_1⟩]]) (fnEnds Tryd.prog Tryd.f44 (.bool (topo_Match_1F a0 b0_0 b0_1)) [.cells 66 [.str b0_0, .coll ⟨.str, b0_1⟩]]) := by
  refine Tr_tree (kok _ _ _ _ _ _) (E := E_topo_Match_1) (L := noLoops) 60 9999 LoopsOk.none (topo_Match_1R a0 b0_0 b0_1) (by kernel_rfl) (by kernel_rfl) (by kernel_rfl) ?_
  unfold topo_Match_1R
  refine ⟨need_cons (by first | assumption | omega | (intro; omega) | (simp only [decide_eq_true_eq, decide_eq_false_iff_not, Bool.cond_false_right, Bool.cond_true_right, Bool.cond_true_left, Bool.cond_false_left, Bool.and_eq_true, Bool.or_eq_true, Bool.not_eq_true', bytesLim, maxLen, List.length_cons, List.length_nil, List.length_append, byteSize_lit] at *; omega) | (intro; simp only [decide_eq_true_eq, decide_eq_false_iff_not, Bool.cond_false_right, Bool.cond_true_right, Bool.cond_true_left, Bool.cond_false_left, Bool.and_eq_true, Bool.or_eq_true, Bool.not_eq_true', bytesLim, maxLen, List.length_cons, List.length_nil, List.length_append, byteSize_lit] at *; omega)) (need_nil), ?_⟩
  exact ⟨trivial, .inl (by kernel_rfl), by kernel_rfl⟩
noncomputable def topo_Match_1_fact : Fact Tryd.prog := factOf 44 Tryd.f44 (by kernel_rfl) rfl (by kernel_rfl) [.st .label, .c (.ptr 0 0)] [.cells 66 [.str, .coll .str]] true (fun t u => .bool (topo_Match_1F t.1 u.1.1 u.1.2.1)) (fun t u => HPL.enc _ u) (fun t u => [u.1.2.1.length < 4611686018427387904])
  (fun _ _ _ => rfl) (fun t u => by kernel_rfl) (fun t u => by kernel_rfl) (fun t u h => topo_Match_1F_tr t.1 u.1.1 u.1.2.1 (h _ List.mem_cons_self))
noncomputable def E_topo_Label_2 : Env := envOf (P := Tryd.prog) [topo_Match_1_fact] [] [] ckf
def topo_Label_2LF (b0_0 : ByteArray) (b0_1 : List ByteArray) : List XLabel → Nat → Bool × Int
  | [], i => (false, default)
  | o :: r, i => cond (topo_Match_1F o b0_0 b0_1)
    (true, (i : Int))
    (topo_Label_2LF b0_0 b0_1 r (i + 1))
def topo_Label_2LS (a0 : List XLabel) (b0_0 : ByteArray) (b0_1 : List ByteArray) (i : Nat) : St :=
  ⟨slots 19 [(0, .coll ⟨.label, a0⟩), (1, .fn 44 [.ptr 0 0]), (7, .int .i64 (a0.length : Int)), (8, .int .i64 (i : Int))], [.cells 66 [.str b0_0, .coll ⟨.str, b0_1⟩]]⟩
def topo_Label_2LR (a0 : List XLabel) (b0_0 : ByteArray) (b0_1 : List ByteArray) (i : Nat) : RT :=
  (.ask (decide ((i : Int) < (a0.length : Int)))
    (.need [0 ≤ (i : Int) ∧ (i : Int) < (a0.length : Int)]
      (.need [b0_1.length < 4611686018427387904]
        (.ask (topo_Match_1F (a0.getD i default) b0_0 b0_1)
          (.leaf .ret ⟨slots 19 [(4, .int .i64 (i : Int))], [.cells 66 [.str b0_0, .coll ⟨.str, b0_1⟩]]⟩ [])
          (.leaf .normal ⟨slots 19 [(0, .coll ⟨.label, a0⟩), (1, .fn 44 [.ptr 0 0]), (7, .int .i64 (a0.length : Int)), (8, .int .i64 (IntKind.i64.wrap ((i : Int) + (1 : Int))))], [.cells 66 [.str b0_0, .coll ⟨.str, b0_1⟩]]⟩ []))))
    (.leaf (.exit 0) ⟨slots 19 [], [.cells 66 [.str b0_0, .coll ⟨.str, b0_1⟩]]⟩ []))
def topo_Label_2LT (a0 : List XLabel) (b0_0 : ByteArray) (b0_1 : List ByteArray) (i : Nat) : Tree :=
  .ask ((topo_Label_2LF b0_0 b0_1 (a0.drop i) i).1) (.leaf .ret ⟨slots 19 [(4, .int .i64 ((topo_Label_2LF b0_0 b0_1 (a0.drop i) i).2))], [.cells 66 [.str b0_0, .coll ⟨.str, b0_1⟩]]⟩) (.leaf (.exit 0) ⟨slots 19 [], [.cells 66 [.str b0_0, .coll ⟨.str, b0_1⟩]]⟩)
theorem topo_Label_2L_loop (a0 : List XLabel) (b0_0 : ByteArray) (b0_1 : List ByteArray) (hp0 : a0.length ≤ 4294967296) (hp1 : b0_1.length < 4611686018427387904) (hp2 : ∀ q ∈ a0, q.Fine) (hlen : a0.length < 4611686018427387904) (z : { z : Nat // z ≤ a0.length }) (Q : Exit → St → Prop) (h : (topo_Label_2LT a0 b0_0 b0_1 z.1).All Q) : Tr Tryd.prog 1 (.loop (loopAt Tryd.f72 0)) (topo_Label_2LS a0 b0_0 b0_1 z.1) Q := by
  refine Tr_loopT (kok _ _ _ _ _ _) (E := E_topo_Label_2) (ι := { z : Nat // z ≤ a0.length }) 60 0 (fun _ => noLoops) (fun z => topo_Label_2LS a0 b0_0 b0_1 z.1) (fun z => topo_Label_2LT a0 b0_0 b0_1 z.1) (fun z => topo_Label_2LR a0 b0_0 b0_1 z.1) (fun z => a0.length - z.1) (fun _ => LoopsOk.none) (fun z => by obtain ⟨i, hi⟩ := z; kernel_rfl) (fun z => by obtain ⟨i, hi⟩ := z; kernel_rfl) (fun z => by obtain ⟨i, hi⟩ := z; kernel_rfl) ?_ z Q h
  rintro ⟨i, hi⟩ Q hT
  replace hT : (topo_Label_2LT a0 b0_0 b0_1 i).All Q := hT
  replace hi : i ≤ a0.length := hi
  show (topo_Label_2LR a0 b0_0 b0_1 i).All _
  unfold topo_Label_2LR
  refine ⟨fun h0 => ?_, fun h0 => ?_⟩
  · have hlt : i < a0.length := by simpa using h0
    have hd := drop_getD hlt
    have hw := wrap_succ (i := i) (by omega)
    refine ⟨need_cons (by omega) (need_nil), ?_⟩
    refine ⟨need_cons (by omega) (need_nil), ?_⟩
    refine ⟨fun h1 => ?_, fun h1 => ?_⟩
    · have hF : topo_Label_2LF b0_0 b0_1 (a0.drop i) i = (true, (i : Int)) := by rw [hd]; first | exact (cond_t h1 rfl) | simp only [topo_Label_2LF, h0, h1, cond_true, cond_false]
      unfold topo_Label_2LT at hT
      rw [hF] at hT
      exact hT.1 rfl
    · have hF : topo_Label_2LF b0_0 b0_1 (a0.drop i) i = topo_Label_2LF b0_0 b0_1 (a0.drop (i + 1)) (i + 1) := by rw [hd]; first | exact (cond_f h1 rfl) | simp only [topo_Label_2LF, h0, h1, cond_true, cond_false]
      refine ⟨⟨(i + 1), by show (i + 1) ≤ a0.length; omega⟩, by show a0.length - (i + 1) < a0.length - i; omega, ?_, ?_⟩
      · show _ = topo_Label_2LS a0 b0_0 b0_1 (i + 1)
        unfold topo_Label_2LS
        simp only [hw]
      · show (topo_Label_2LT a0 b0_0 b0_1 (i + 1)).All Q
        unfold topo_Label_2LT at hT ⊢
        rw [hF] at hT
        exact hT
  · have hge : ¬ i < a0.length := by simpa using h0
    have hd : a0.drop i = [] := List.drop_eq_nil_of_le (by omega)
    have hF : topo_Label_2LF b0_0 b0_1 (a0.drop i) i = (false, default) := by rw [hd]; first | exact rfl | simp only [topo_Label_2LF, h0, cond_true, cond_false]
    unfold topo_Label_2LT at hT
    rw [hF] at hT
    exact hT.2 rfl
def topo_Label_2F (a0 : List XLabel) (b0_0 : ByteArray) (b0_1 : List ByteArray) : Int :=
  cond ((topo_Label_2LF b0_0 b0_1 a0 0).1)
    ((topo_Label_2LF b0_0 b0_1 a0 0).2)
    (-1 : Int)
def topo_Label_2R (a0 : List XLabel) (b0_0 : ByteArray) (b0_1 : List ByteArray) : RT :=
  (.ask ((topo_Label_2LF b0_0 b0_1 a0 0).1)
    (.leaf .ret ⟨slots 19 [(4, .int .i64 ((topo_Label_2LF b0_0 b0_1 a0 0).2))], [.cells 66 [.str b0_0, .coll ⟨.str, b0_1⟩]]⟩ [])
    (.leaf .ret ⟨slots 19 [(4, .int .i64 (-1))], [.cells 66 [.str b0_0, .coll ⟨.str, b0_1⟩]]⟩ []))
theorem topo_Label_2F_tr (a0 : List XLabel) (b0_0 : ByteArray) (b0_1 : List ByteArray) (hp0 : a0.length ≤ 4294967296) (hp1 : b0_1.length < 4611686018427387904) (hp2 : ∀ q ∈ a0, q.Fine) : Tr Tryd.prog 1 (bodyOf Tryd.f72) (fnBegins Tryd.f72 [.coll ⟨.label, a0⟩, .fn 44 [.ptr 0 0]] [.cells 66 [.str b0_0, .coll ⟨.str, b0_1⟩]]) (fnEnds Tryd.prog Tryd.f72 (.int .i64 (topo_Label_2F a0 b0_0 b0_1)) [.cells 66 [.str b0_0, .coll ⟨.str, b0_1⟩]]) := by
  refine Tr_tree (kok _ _ _ _ _ _) (E := E_topo_Label_2) (L := (loopsOf [(0, topo_Label_2LS a0 b0_0 b0_1 0, [], topo_Label_2LT a0 b0_0 b0_1 0)])) 60 9999 (LoopsOk.one (g := loopAt Tryd.f72 0) (b := 0) (by kernel_rfl) (by kernel_rfl) (by kernel_rfl) (by kernel_rfl) (fun Q h => topo_Label_2L_loop a0 b0_0 b0_1 hp0 hp1 hp2 (by omega) ⟨0, by first | exact Nat.zero_le _ | (show 0 ≤ a0.length; omega) | (show 0 ≤ a0.length; exact ⟨Nat.zero_le _, by assumption⟩) | (show 0 ≤ a0.length; simp)⟩ Q h)) (topo_Label_2R a0 b0_0 b0_1) (by kernel_rfl) (by kernel_rfl) (by kernel_rfl) ?_
  unfold topo_Label_2R
  refine ⟨fun h0 => ?_, fun h0 => ?_⟩
  · have hF : topo_Label_2F a0 b0_0 b0_1 = ((topo_Label_2LF b0_0 b0_1 a0 0).2) := by first | exact (cond_t h0 rfl) | simp only [topo_Label_2F, h0, cond_true, cond_false]
    exact ⟨trivial, .inl (by first | (rw [hF]; kernel_rfl) | kernel_rfl), by first | (rw [hF]; kernel_rfl) | kernel_rfl⟩
  · have hF : topo_Label_2F a0 b0_0 b0_1 = (-1 : Int) := by first | exact (cond_f h0 rfl) | simp only [topo_Label_2F, h0, cond_true, cond_false]
    exact ⟨trivial, .inl (by first | (rw [hF]; kernel_rfl) | kernel_rfl), by first | (rw [hF]; kernel_rfl) | kernel_rfl⟩
noncomputable def topo_Label_2_fact : Fact Tryd.prog := factOf 72 Tryd.f72 (by kernel_rfl) rfl (by kernel_rfl) [.c (.coll .label), .fn 44 [.ptr 0 0]] [.cells 66 [.str, .coll .str]] true (fun t u => .int .i64 (topo_Label_2F t.1 u.1.1 u.1.2.1)) (fun t u => HPL.enc _ u) (fun t u => [t.1.length ≤ 4294967296, u.1.2.1.length < 4611686018427387904, ∀ q ∈ t.1, q.Fine])
  (fun _ _ _ => rfl) (fun t u => by kernel_rfl) (fun t u => by kernel_rfl) (fun t u h => topo_Label_2F_tr t.1 u.1.1 u.1.2.1 (h _ List.mem_cons_self) (h _ (List.mem_cons_of_mem _ List.mem_cons_self)) (h _ (List.mem_cons_of_mem _ (List.mem_cons_of_mem _ List.mem_cons_self))))
noncomputable def E_topo_Label : Env := envOf (P := Tryd.prog) [topo_Label_2_fact] [] [] ckf
def topo_LabelF (a0 : List XLabel) (b0_0 : ByteArray) (b0_1 : List ByteArray) : Bool :=
  decide ((topo_Label_2F a0 b0_0 b0_1) ≥ (0 : Int))
def topo_LabelR (a0 : List XLabel) (b0_0 : ByteArray) (b0_1 : List ByteArray) : RT :=
  (.need [a0.length ≤ 4294967296, b0_1.length < 4611686018427387904, ∀ q ∈ a0, q.Fine]
    (.leaf .ret ⟨slots 9 [(4, .bool (decide ((topo_Label_2F a0 b0_0 b0_1) ≥ (0 : Int))))], [.cells 66 [.str b0_0, .coll ⟨.str, b0_1⟩]]⟩ []))
theorem topo_LabelF_tr (a0 : List XLabel) (b0_0 : ByteArray) (b0_1 : List ByteArray) (hp0 : a0.length ≤ 4294967296) (hp1 : b0_1.length < 4611686018427387904) (hp2 : ∀ q ∈ a0, q.Fine) : Tr Tryd.prog 1 (bodyOf Tryd.f43) (fnBegins Tryd.f43 [.coll ⟨.label, a0⟩, .fn 44 [.ptr 0 0]] [.cells 66 [.str b0_0, .coll ⟨.str, b0_1⟩]]) (fnEnds Tryd.prog Tryd.f43 (.bool (topo_LabelF a0 b0_0 b0_1)) [.cells 66 [.str b0_0, .coll ⟨.str, b0_1⟩]]) := by
  refine Tr_tree (kok _ _ _ _ _ _) (E := E_topo_Label) (L := noLoops) 60 9999 LoopsOk.none (topo_LabelR a0 b0_0 b0_1) (by kernel_rfl) (by kernel_rfl) (by kernel_rfl) ?_
  unfold topo_LabelR
  refine ⟨need_cons (by omega) (need_cons (by omega) (need_cons (by assumption) (need_nil))), ?_⟩
  exact ⟨trivial, .inl (by kernel_rfl), by kernel_rfl⟩
noncomputable def topo_Label_fact : Fact Tryd.prog := factOf 43 Tryd.f43 (by kernel_rfl) rfl (by kernel_rfl) [.c (.coll .label), .fn 44 [.ptr 0 0]] [.cells 66 [.str, .coll .str]] true (fun t u => .bool (topo_LabelF t.1 u.1.1 u.1.2.1)) (fun t u => HPL.enc _ u) (fun t u => [t.1.length ≤ 4294967296, u.1.2.1.length < 4611686018427387904, ∀ q ∈ t.1, q.Fine])
  (fun _ _ _ => rfl) (fun t u => by kernel_rfl) (fun t u => by kernel_rfl) (fun t u h => topo_LabelF_tr t.1 u.1.1 u.1.2.1 (h _ List.mem_cons_self) (h _ (List.mem_cons_of_mem _ List.mem_cons_self)) (h _ (List.mem_cons_of_mem _ (List.mem_cons_of_mem _ List.mem_cons_self))))
noncomputable def E_topo_Match : Env := envOf (P := Tryd.prog) [topo_Label_fact] [] [] ckf
def topo_MatchLF (a1 : List XLabel) : List XTerm → Bool
  | [] => false
  | o :: r => cond (!(topo_LabelF a1 (o.key) (o.values)))
    true
    (topo_MatchLF a1 r)
def topo_MatchLS (a0 : List XTerm) (a1 : List XLabel) (i : Nat) : St :=
  ⟨slots 18 [(1, .coll ⟨.label, a1⟩), (7, .coll ⟨.term, a0⟩), (8, .int .i64 (a0.length : Int)), (9, .int .i64 (i : Int))], []⟩
def topo_MatchLR (a0 : List XTerm) (a1 : List XLabel) (i : Nat) : RT :=
  (.ask (decide ((i : Int) < (a0.length : Int)))
    (.need [0 ≤ (i : Int) ∧ (i : Int) < (a0.length : Int)]
      (.need [a1.length ≤ 4294967296, ((a0.getD i default).values).length < 4611686018427387904, ∀ q ∈ a1, q.Fine]
        (.ask (!(topo_LabelF a1 ((a0.getD i default).key) ((a0.getD i default).values)))
          (.leaf .ret ⟨slots 18 [(4, .bool false)], []⟩ [])
          (.leaf .normal ⟨slots 18 [(1, .coll ⟨.label, a1⟩), (7, .coll ⟨.term, a0⟩), (8, .int .i64 (a0.length : Int)), (9, .int .i64 (IntKind.i64.wrap ((i : Int) + (1 : Int))))], []⟩ []))))
    (.leaf (.exit 0) ⟨slots 18 [], []⟩ []))
def topo_MatchLT (a0 : List XTerm) (a1 : List XLabel) (i : Nat) : Tree :=
  .ask (topo_MatchLF a1 (a0.drop i)) (.leaf .ret ⟨slots 18 [(4, .bool false)], []⟩) (.leaf (.exit 0) ⟨slots 18 [], []⟩)
theorem topo_MatchL_loop (a0 : List XTerm) (a1 : List XLabel) (hp0 : a0.length ≤ 4294967296) (hp1 : a1.length ≤ 4294967296) (hp2 : ∀ q ∈ (a0 : List XTerm), q.Fine) (hp3 : ∀ q ∈ (a1 : List XLabel), q.Fine) (hlen : a0.length < 4611686018427387904) (z : { z : Nat // z ≤ a0.length }) (Q : Exit → St → Prop) (h : (topo_MatchLT a0 a1 z.1).All Q) : Tr Tryd.prog 0 (.loop (loopAt Tryd.f24 0)) (topo_MatchLS a0 a1 z.1) Q := by
  refine Tr_loopT (kok _ _ _ _ _ _) (E := E_topo_Match) (ι := { z : Nat // z ≤ a0.length }) 60 0 (fun _ => noLoops) (fun z => topo_MatchLS a0 a1 z.1) (fun z => topo_MatchLT a0 a1 z.1) (fun z => topo_MatchLR a0 a1 z.1) (fun z => a0.length - z.1) (fun _ => LoopsOk.none) (fun z => by obtain ⟨i, hi⟩ := z; kernel_rfl) (fun z => by obtain ⟨i, hi⟩ := z; kernel_rfl) (fun z => by obtain ⟨i, hi⟩ := z; kernel_rfl) ?_ z Q h
  rintro ⟨i, hi⟩ Q hT
  replace hT : (topo_MatchLT a0 a1 i).All Q := hT
  replace hi : i ≤ a0.length := hi
  show (topo_MatchLR a0 a1 i).All _
  unfold topo_MatchLR
  refine ⟨fun h0 => ?_, fun h0 => ?_⟩
  · have hlt : i < a0.length := by simpa using h0
    have hd := drop_getD hlt
    have hw := wrap_succ (i := i) (by omega)
    refine ⟨need_cons (by omega) (need_nil), ?_⟩
    refine ⟨need_cons (by omega) (need_cons (by exact (hp2 _ (gD_mem hlt)).2.1) (need_cons (by assumption) (need_nil))), ?_⟩
    refine ⟨fun h1 => ?_, fun h1 => ?_⟩
    · have hF : topo_MatchLF a1 (a0.drop i) = true := by rw [hd]; first | exact (cond_t h1 rfl) | simp only [topo_MatchLF, h0, h1, cond_true, cond_false]
      unfold topo_MatchLT at hT
      rw [hF] at hT
      exact hT.1 rfl
    · have hF : topo_MatchLF a1 (a0.drop i) = topo_MatchLF a1 (a0.drop (i + 1)) := by rw [hd]; first | exact (cond_f h1 rfl) | simp only [topo_MatchLF, h0, h1, cond_true, cond_false]
      refine ⟨⟨(i + 1), by show (i + 1) ≤ a0.length; omega⟩, by show a0.length - (i + 1) < a0.length - i; omega, ?_, ?_⟩
      · show _ = topo_MatchLS a0 a1 (i + 1)
        unfold topo_MatchLS
        simp only [hw]
      · show (topo_MatchLT a0 a1 (i + 1)).All Q
        unfold topo_MatchLT at hT ⊢
        rw [hF] at hT
        exact hT
  · have hge : ¬ i < a0.length := by simpa using h0
    have hd : a0.drop i = [] := List.drop_eq_nil_of_le (by omega)
    have hF : topo_MatchLF a1 (a0.drop i) = false := by rw [hd]; first | exact rfl | simp only [topo_MatchLF, h0, cond_true, cond_false]
    unfold topo_MatchLT at hT
    rw [hF] at hT
    exact hT.2 rfl
def topo_MatchF (a0 : List XTerm) (a1 : List XLabel) : Bool :=
  cond (topo_MatchLF a1 a0)
    false
    true
def topo_MatchR (a0 : List XTerm) (a1 : List XLabel) : RT :=
  (.ask (topo_MatchLF a1 a0)
    (.leaf .ret ⟨slots 18 [(4, .bool false)], []⟩ [])
    (.leaf .ret ⟨slots 18 [(4, .bool true)], []⟩ []))
theorem topo_MatchF_tr (a0 : List XTerm) (a1 : List XLabel) (hp0 : a0.length ≤ 4294967296) (hp1 : a1.length ≤ 4294967296) (hp2 : ∀ q ∈ (a0 : List XTerm), q.Fine) (hp3 : ∀ q ∈ (a1 : List XLabel), q.Fine) : Tr Tryd.prog 0 (bodyOf Tryd.f24) (fnBegins Tryd.f24 [.coll ⟨.term, a0⟩, .coll ⟨.label, a1⟩] []) (fnEnds Tryd.prog Tryd.f24 (.bool (topo_MatchF a0 a1)) []) := by
  refine Tr_tree (kok _ _ _ _ _ _) (E := E_topo_Match) (L := (loopsOf [(0, topo_MatchLS a0 a1 0, [], topo_MatchLT a0 a1 0)])) 60 9999 (LoopsOk.one (g := loopAt Tryd.f24 0) (b := 0) (by kernel_rfl) (by kernel_rfl) (by kernel_rfl) (by kernel_rfl) (fun Q h => topo_MatchL_loop a0 a1 hp0 hp1 hp2 hp3 (by omega) ⟨0, by first | exact Nat.zero_le _ | (show 0 ≤ a0.length; omega) | (show 0 ≤ a0.length; exact ⟨Nat.zero_le _, by assumption⟩) | (show 0 ≤ a0.length; simp)⟩ Q h)) (topo_MatchR a0 a1) (by kernel_rfl) (by kernel_rfl) (by kernel_rfl) ?_
  unfold topo_MatchR
  refine ⟨fun h0 => ?_, fun h0 => ?_⟩
  · have hF : topo_MatchF a0 a1 = false := by first | exact (cond_t h0 rfl) | simp only [topo_MatchF, h0, cond_true, cond_false]
    exact ⟨trivial, .inl (by first | (rw [hF]; kernel_rfl) | kernel_rfl), by first | (rw [hF]; kernel_rfl) | kernel_rfl⟩
  · have hF : topo_MatchF a0 a1 = true := by first | exact (cond_f h0 rfl) | simp only [topo_MatchF, h0, cond_true, cond_false]
    exact ⟨trivial, .inl (by first | (rw [hF]; kernel_rfl) | kernel_rfl), by first | (rw [hF]; kernel_rfl) | kernel_rfl⟩
noncomputable def topo_Match_fact : Fact Tryd.prog := factOf 24 Tryd.f24 (by kernel_rfl) rfl (by kernel_rfl) [.c (.coll .term), .c (.coll .label)] [] true (fun t u => .bool (topo_MatchF t.1 t.2.1)) (fun t u => []) (fun t u => [t.1.length ≤ 4294967296, t.2.1.length ≤ 4294967296, ∀ q ∈ (t.1 : List XTerm), q.Fine, ∀ q ∈ (t.2.1 : List XLabel), q.Fine])
  (fun _ _ _ => rfl) (fun t u => by kernel_rfl) (fun t u => by kernel_rfl) (fun t u h => topo_MatchF_tr t.1 t.2.1 (h _ List.mem_cons_self) (h _ (List.mem_cons_of_mem _ List.mem_cons_self)) (h _ (List.mem_cons_of_mem _ (List.mem_cons_of_mem _ List.mem_cons_self))) (h _ (List.mem_cons_of_mem _ (List.mem_cons_of_mem _ (List.mem_cons_of_mem _ List.mem_cons_self)))))
noncomputable def E_r02_has : Env := envOf (P := Tryd.prog) [] [] [] ckf
def r02_hasLF (a1 : ByteArray) : List ByteArray → Bool
  | [] => false
  | o :: r => cond (decide (o = a1))
    true
    (r02_hasLF a1 r)
def r02_hasLS (a0 : List ByteArray) (a1 : ByteArray) (i : Nat) : St :=
  ⟨slots 18 [(0, .coll ⟨.str, a0⟩), (1, .str a1), (5, .int .i64 (i : Int))], []⟩
def r02_hasLR (a0 : List ByteArray) (a1 : ByteArray) (i : Nat) : RT :=
  (.ask (decide ((i : Int) < (a0.length : Int)))
    (.need [0 ≤ (i : Int) ∧ (i : Int) < (a0.length : Int)]
      (.ask (decide ((a0.getD i default) = a1))
        (.leaf .ret ⟨slots 18 [(4, .bool true)], []⟩ [])
        (.leaf .normal ⟨slots 18 [(0, .coll ⟨.str, a0⟩), (1, .str a1), (5, .int .i64 (IntKind.i64.wrap ((i : Int) + (1 : Int))))], []⟩ [])))
    (.leaf (.exit 0) ⟨slots 18 [], []⟩ []))
def r02_hasLT (a0 : List ByteArray) (a1 : ByteArray) (i : Nat) : Tree :=
  .ask (r02_hasLF a1 (a0.drop i)) (.leaf .ret ⟨slots 18 [(4, .bool true)], []⟩) (.leaf (.exit 0) ⟨slots 18 [], []⟩)
theorem r02_hasL_loop (a0 : List ByteArray) (a1 : ByteArray) (hp0 : a0.length < 4611686018427387904) (hlen : a0.length < 4611686018427387904) (z : { z : Nat // z ≤ a0.length }) (Q : Exit → St → Prop) (h : (r02_hasLT a0 a1 z.1).All Q) : Tr Tryd.prog 0 (.loop (loopAt Tryd.f46 0)) (r02_hasLS a0 a1 z.1) Q := by
  refine Tr_loopT (kok _ _ _ _ _ _) (E := E_r02_has) (ι := { z : Nat // z ≤ a0.length }) 60 0 (fun _ => noLoops) (fun z => r02_hasLS a0 a1 z.1) (fun z => r02_hasLT a0 a1 z.1) (fun z => r02_hasLR a0 a1 z.1) (fun z => a0.length - z.1) (fun _ => LoopsOk.none) (fun z => by obtain ⟨i, hi⟩ := z; kernel_rfl) (fun z => by obtain ⟨i, hi⟩ := z; kernel_rfl) (fun z => by obtain ⟨i, hi⟩ := z; kernel_rfl) ?_ z Q h
  rintro ⟨i, hi⟩ Q hT
  replace hT : (r02_hasLT a0 a1 i).All Q := hT
  replace hi : i ≤ a0.length := hi
  show (r02_hasLR a0 a1 i).All _
  unfold r02_hasLR
  refine ⟨fun h0 => ?_, fun h0 => ?_⟩
  · have hlt : i < a0.length := by simpa using h0
    have hd := drop_getD hlt
    have hw := wrap_succ (i := i) (by omega)
    refine ⟨need_cons (by first | assumption | omega | (intro; omega) | (simp only [decide_eq_true_eq, decide_eq_false_iff_not, Bool.cond_false_right, Bool.cond_true_right, Bool.cond_true_left, Bool.cond_false_left, Bool.and_eq_true, Bool.or_eq_true, Bool.not_eq_true', bytesLim, maxLen, List.length_cons, List.length_nil, List.length_append, byteSize_lit] at *; omega) | (intro; simp only [decide_eq_true_eq, decide_eq_false_iff_not, Bool.cond_false_right, Bool.cond_true_right, Bool.cond_true_left, Bool.cond_false_left, Bool.and_eq_true, Bool.or_eq_true, Bool.not_eq_true', bytesLim, maxLen, List.length_cons, List.length_nil, List.length_append, byteSize_lit] at *; omega)) (need_nil), ?_⟩
    refine ⟨fun h1 => ?_, fun h1 => ?_⟩
    · have hF : r02_hasLF a1 (a0.drop i) = true := by rw [hd]; first | exact (cond_t h1 rfl) | simp only [r02_hasLF, h0, h1, cond_true, cond_false]
      unfold r02_hasLT at hT
      rw [hF] at hT
      exact hT.1 rfl
    · have hF : r02_hasLF a1 (a0.drop i) = r02_hasLF a1 (a0.drop (i + 1)) := by rw [hd]; first | exact (cond_f h1 rfl) | simp only [r02_hasLF, h0, h1, cond_true, cond_false]
      refine ⟨⟨(i + 1), by show (i + 1) ≤ a0.length; omega⟩, by show a0.length - (i + 1) < a0.length - i; omega, ?_, ?_⟩
      · show _ = r02_hasLS a0 a1 (i + 1)
        unfold r02_hasLS
        simp only [hw]
      · show (r02_hasLT a0 a1 (i + 1)).All Q
        unfold r02_hasLT at hT ⊢
        rw [hF] at hT
        exact hT
  · have hge : ¬ i < a0.length := by simpa using h0
    have hd : a0.drop i = [] := List.drop_eq_nil_of_le (by omega)
    have hF : r02_hasLF a1 (a0.drop i) = false := by rw [hd]; first | exact rfl | simp only [r02_hasLF, h0, cond_true, cond_false]
    unfold r02_hasLT at hT
    rw [hF] at hT
    exact hT.2 rfl
def r02_hasF (a0 : List ByteArray) (a1 : ByteArray) : Bool :=
  cond (r02_hasLF a1 a0)
    true
    false
def r02_hasR (a0 : List ByteArray) (a1 : ByteArray) : RT :=
  (.ask (r02_hasLF a1 a0)
    (.leaf .ret ⟨slots 18 [(4, .bool true)], []⟩ [])
    (.leaf .ret ⟨slots 18 [(4, .bool false)], []⟩ []))
theorem r02_hasF_tr (a0 : List ByteArray) (a1 : ByteArray) (hp0 : a0.length < 4611686018427387904) : Tr Tryd.prog 0 (bodyOf Tryd.f46) (fnBegins Tryd.f46 [.coll ⟨.str, a0⟩, .str a1] []) (fnEnds Tryd.prog Tryd.f46 (.bool (r02_hasF a0 a1)) []) := by
  refine Tr_tree (kok _ _ _ _ _ _) (E := E_r02_has) (L := (loopsOf [(0, r02_hasLS a0 a1 0, [], r02_hasLT a0 a1 0)])) 60 9999 (LoopsOk.one (g := loopAt Tryd.f46 0) (b := 0) (by kernel_rfl) (by kernel_rfl) (by kernel_rfl) (by kernel_rfl) (fun Q h => r02_hasL_loop a0 a1 hp0 (by first | assumption | omega | (simp only [List.length_cons, List.length_nil, List.length_append]; omega)) ⟨0, by first | exact Nat.zero_le _ | (show 0 ≤ a0.length; omega) | (show 0 ≤ a0.length; exact ⟨Nat.zero_le _, by assumption⟩) | (show 0 ≤ a0.length; simp)⟩ Q h)) (r02_hasR a0 a1) (by kernel_rfl) (by kernel_rfl) (by kernel_rfl) ?_
  unfold r02_hasR
  refine ⟨fun h0 => ?_, fun h0 => ?_⟩
  · have hF : r02_hasF a0 a1 = true := by first | exact (cond_t h0 rfl) | simp only [r02_hasF, h0, cond_true, cond_false]
    exact ⟨trivial, .inl (by first | (rw [hF]; kernel_rfl) | kernel_rfl), by first | (rw [hF]; kernel_rfl) | kernel_rfl⟩
  · have hF : r02_hasF a0 a1 = false := by first | exact (cond_f h0 rfl) | simp only [r02_hasF, h0, cond_true, cond_false]
    exact ⟨trivial, .inl (by first | (rw [hF]; kernel_rfl) | kernel_rfl), by first | (rw [hF]; kernel_rfl) | kernel_rfl⟩
noncomputable def r02_has_fact : Fact Tryd.prog := factOf 46 Tryd.f46 (by kernel_rfl) rfl (by kernel_rfl) [.c (.coll .str), .c (.str)] [] true (fun t u => .bool (r02_hasF t.1 t.2.1)) (fun t u => []) (fun t u => [t.1.length < 4611686018427387904])
  (fun _ _ _ => rfl) (fun t u => by kernel_rfl) (fun t u => by kernel_rfl) (fun t u h => r02_hasF_tr t.1 t.2.1 (h _ List.mem_cons_self))
noncomputable def E_r02_Match : Env := envOf (P := Tryd.prog) [r02_has_fact] [] [] ckf
def r02_MatchL1F (a0 : List XTerm) (i : Nat) : List XLabel → Bool → Bool
  | [], v1_3 => v1_3
  | o1 :: r, v1_3 => r02_MatchL1F a0 i r (cond v1_3 true (cond (decide ((o1.key) = ((a0.getD i default).key))) (r02_hasF ((a0.getD i default).values) (o1.value)) false))
def r02_MatchL1S (a0 : List XTerm) (a1 : List XLabel) (i : Nat) (v1_3 : Bool) (i1 : Nat) : St :=
  ⟨slots 49 [(0, .coll ⟨.term, a0⟩), (1, .coll ⟨.label, a1⟩), (5, .int .i64 (i : Int)), (6, .bool v1_3), (7, .int .i64 (i1 : Int))], []⟩
def r02_MatchL1R (a0 : List XTerm) (a1 : List XLabel) (i : Nat) (v1_3 : Bool) (i1 : Nat) : RT :=
  (.ask (decide ((i1 : Int) < (a1.length : Int)))
    (.need [(v1_3 = false) → (0 ≤ (i1 : Int) ∧ (i1 : Int) < (a1.length : Int)), (v1_3 = false) → (0 ≤ (i : Int) ∧ (i : Int) < (a0.length : Int)), ((v1_3 = false) ∧ (decide (((a1.getD i1 default).key) = ((a0.getD i default).key))) = true) → (0 ≤ (i : Int) ∧ (i : Int) < (a0.length : Int)), ((v1_3 = false) ∧ (decide (((a1.getD i1 default).key) = ((a0.getD i default).key))) = true) → (0 ≤ (i1 : Int) ∧ (i1 : Int) < (a1.length : Int)), ((v1_3 = false) ∧ (decide (((a1.getD i1 default).key) = ((a0.getD i default).key))) = true) → (((a0.getD i default).values).length < 4611686018427387904)]
      (.leaf .normal ⟨slots 49 [(0, .coll ⟨.term, a0⟩), (1, .coll ⟨.label, a1⟩), (5, .int .i64 (i : Int)), (6, .bool (cond v1_3 true (cond (decide (((a1.getD i1 default).key) = ((a0.getD i default).key))) (r02_hasF ((a0.getD i default).values) ((a1.getD i1 default).value)) false))), (7, .int .i64 (IntKind.i64.wrap ((i1 : Int) + (1 : Int))))], []⟩ []))
    (.leaf (.exit 2) ⟨slots 49 [(0, .coll ⟨.term, a0⟩), (1, .coll ⟨.label, a1⟩), (5, .int .i64 (i : Int)), (6, .bool v1_3)], []⟩ []))
def r02_MatchL1T (a0 : List XTerm) (a1 : List XLabel) (i : Nat) (v1_3 : Bool) (i1 : Nat) : Tree :=
  .leaf (.exit 2) ⟨slots 49 [(0, .coll ⟨.term, a0⟩), (1, .coll ⟨.label, a1⟩), (5, .int .i64 (i : Int)), (6, .bool (r02_MatchL1F a0 i (a1.drop i1) v1_3))], []⟩
theorem r02_MatchL1_loop (a0 : List XTerm) (a1 : List XLabel) (i : Nat) (hp0 : a0.length ≤ 4294967296) (hp1 : a1.length ≤ 4294967296) (hp2 : ∀ q ∈ a0, q.Fine) (hlen : a1.length < 4611686018427387904) (hn0 : 0 ≤ (i : Int) ∧ (i : Int) < (a0.length : Int)) (z : { z : Bool × Nat // z.2 ≤ a1.length }) (Q : Exit → St → Prop) (h : (r02_MatchL1T a0 a1 i z.1.1 z.1.2).All Q) : Tr Tryd.prog 0 (.loop (loopSub (loopAt Tryd.f25 0) 0 0)) (r02_MatchL1S a0 a1 i z.1.1 z.1.2) Q := by
  refine Tr_loopT (kok _ _ _ _ _ _) (E := E_r02_Match) (ι := { z : Bool × Nat // z.2 ≤ a1.length }) 60 2 (fun _ => noLoops) (fun z => r02_MatchL1S a0 a1 i z.1.1 z.1.2) (fun z => r02_MatchL1T a0 a1 i z.1.1 z.1.2) (fun z => r02_MatchL1R a0 a1 i z.1.1 z.1.2) (fun z => a1.length - z.1.2) (fun _ => LoopsOk.none) (fun z => by obtain ⟨⟨v1_3, i1⟩, hi⟩ := z; kernel_rfl) (fun z => by obtain ⟨⟨v1_3, i1⟩, hi⟩ := z; kernel_rfl) (fun z => by obtain ⟨⟨v1_3, i1⟩, hi⟩ := z; kernel_rfl) ?_ z Q h
  rintro ⟨⟨v1_3, i1⟩, hi⟩ Q hT
  replace hT : (r02_MatchL1T a0 a1 i v1_3 i1).All Q := hT
  replace hi : i1 ≤ a1.length := hi
  show (r02_MatchL1R a0 a1 i v1_3 i1).All _
  unfold r02_MatchL1R
  refine ⟨fun h0 => ?_, fun h0 => ?_⟩
  · have hlt : i1 < a1.length := by simpa using h0
    have hd := drop_getD hlt
    have hw := wrap_succ (i := i1) (by omega)
    refine ⟨need_cons (by first | assumption | omega | (intro; omega) | (simp only [decide_eq_true_eq, decide_eq_false_iff_not, Bool.cond_false_right, Bool.cond_true_right, Bool.cond_true_left, Bool.cond_false_left, Bool.and_eq_true, Bool.or_eq_true, Bool.not_eq_true', bytesLim, maxLen, List.length_cons, List.length_nil, List.length_append, byteSize_lit] at *; omega) | (intro; simp only [decide_eq_true_eq, decide_eq_false_iff_not, Bool.cond_false_right, Bool.cond_true_right, Bool.cond_true_left, Bool.cond_false_left, Bool.and_eq_true, Bool.or_eq_true, Bool.not_eq_true', bytesLim, maxLen, List.length_cons, List.length_nil, List.length_append, byteSize_lit] at *; omega)) (need_cons (by first | assumption | omega | (intro; omega) | (simp only [decide_eq_true_eq, decide_eq_false_iff_not, Bool.cond_false_right, Bool.cond_true_right, Bool.cond_true_left, Bool.cond_false_left, Bool.and_eq_true, Bool.or_eq_true, Bool.not_eq_true', bytesLim, maxLen, List.length_cons, List.length_nil, List.length_append, byteSize_lit] at *; omega) | (intro; simp only [decide_eq_true_eq, decide_eq_false_iff_not, Bool.cond_false_right, Bool.cond_true_right, Bool.cond_true_left, Bool.cond_false_left, Bool.and_eq_true, Bool.or_eq_true, Bool.not_eq_true', bytesLim, maxLen, List.length_cons, List.length_nil, List.length_append, byteSize_lit] at *; omega)) (need_cons (by first | assumption | omega | (intro; omega) | (simp only [decide_eq_true_eq, decide_eq_false_iff_not, Bool.cond_false_right, Bool.cond_true_right, Bool.cond_true_left, Bool.cond_false_left, Bool.and_eq_true, Bool.or_eq_true, Bool.not_eq_true', bytesLim, maxLen, List.length_cons, List.length_nil, List.length_append, byteSize_lit] at *; omega) | (intro; simp only [decide_eq_true_eq, decide_eq_false_iff_not, Bool.cond_false_right, Bool.cond_true_right, Bool.cond_true_left, Bool.cond_false_left, Bool.and_eq_true, Bool.or_eq_true, Bool.not_eq_true', bytesLim, maxLen, List.length_cons, List.length_nil, List.length_append, byteSize_lit] at *; omega)) (need_cons (by first | assumption | omega | (intro; omega) | (simp only [decide_eq_true_eq, decide_eq_false_iff_not, Bool.cond_false_right, Bool.cond_true_right, Bool.cond_true_left, Bool.cond_false_left, Bool.and_eq_true, Bool.or_eq_true, Bool.not_eq_true', bytesLim, maxLen, List.length_cons, List.length_nil, List.length_append, byteSize_lit] at *; omega) | (intro; simp only [decide_eq_true_eq, decide_eq_false_iff_not, Bool.cond_false_right, Bool.cond_true_right, Bool.cond_true_left, Bool.cond_false_left, Bool.and_eq_true, Bool.or_eq_true, Bool.not_eq_true', bytesLim, maxLen, List.length_cons, List.length_nil, List.length_append, byteSize_lit] at *; omega)) (need_cons (by (try refine fun (_ : _ = _) => ?_); (try refine fun (_ : _ ∧ _) => ?_); exact (hp2 _ (gD_mem (by omega))).2.1) (need_nil))))), ?_⟩
    have hF : r02_MatchL1F a0 i (a1.drop i1) v1_3 = r02_MatchL1F a0 i (a1.drop (i1 + 1)) (cond v1_3 true (cond (decide (((a1.getD i1 default).key) = ((a0.getD i default).key))) (r02_hasF ((a0.getD i default).values) ((a1.getD i1 default).value)) false)) := by rw [hd]; first | exact rfl | simp only [r02_MatchL1F, h0, cond_true, cond_false]
    refine ⟨⟨(cond v1_3 true (cond (decide (((a1.getD i1 default).key) = ((a0.getD i default).key))) (r02_hasF ((a0.getD i default).values) ((a1.getD i1 default).value)) false), (i1 + 1)), by show (i1 + 1) ≤ a1.length; omega⟩, by show a1.length - (i1 + 1) < a1.length - i1; omega, ?_, ?_⟩
    · show _ = r02_MatchL1S a0 a1 i (cond v1_3 true (cond (decide (((a1.getD i1 default).key) = ((a0.getD i default).key))) (r02_hasF ((a0.getD i default).values) ((a1.getD i1 default).value)) false)) (i1 + 1)
      unfold r02_MatchL1S
      simp only [hw]
    · show (r02_MatchL1T a0 a1 i (cond v1_3 true (cond (decide (((a1.getD i1 default).key) = ((a0.getD i default).key))) (r02_hasF ((a0.getD i default).values) ((a1.getD i1 default).value)) false)) (i1 + 1)).All Q
      unfold r02_MatchL1T at hT ⊢
      rw [hF] at hT
      exact hT
  · have hge : ¬ i1 < a1.length := by simpa using h0
    have hd : a1.drop i1 = [] := List.drop_eq_nil_of_le (by omega)
    have hF : r02_MatchL1F a0 i (a1.drop i1) v1_3 = v1_3 := by rw [hd]; first | exact rfl | simp only [r02_MatchL1F, h0, cond_true, cond_false]
    unfold r02_MatchL1T at hT
    rw [hF] at hT
    exact hT
def r02_MatchLF (a0 : List XTerm) (a1 : List XLabel) : List XTerm → Nat → Bool
  | [], i => false
  | o :: r, i => cond (!(r02_MatchL1F a0 i a1 false))
    true
    (r02_MatchLF a0 a1 r (i + 1))
def r02_MatchLS (a0 : List XTerm) (a1 : List XLabel) (i : Nat) : St :=
  ⟨slots 49 [(0, .coll ⟨.term, a0⟩), (1, .coll ⟨.label, a1⟩), (5, .int .i64 (i : Int))], []⟩
def r02_MatchLR (a0 : List XTerm) (a1 : List XLabel) (i : Nat) : RT :=
  (.ask (decide ((i : Int) < (a0.length : Int)))
    (.need [0 ≤ (i : Int) ∧ (i : Int) < (a0.length : Int)]
      (.ask (!(r02_MatchL1F a0 i a1 false))
        (.leaf .ret ⟨slots 49 [(4, .bool false)], []⟩ [])
        (.leaf .normal ⟨slots 49 [(0, .coll ⟨.term, a0⟩), (1, .coll ⟨.label, a1⟩), (5, .int .i64 (IntKind.i64.wrap ((i : Int) + (1 : Int))))], []⟩ [])))
    (.leaf (.exit 0) ⟨slots 49 [], []⟩ []))
def r02_MatchLT (a0 : List XTerm) (a1 : List XLabel) (i : Nat) : Tree :=
  .ask (r02_MatchLF a0 a1 (a0.drop i) i) (.leaf .ret ⟨slots 49 [(4, .bool false)], []⟩) (.leaf (.exit 0) ⟨slots 49 [], []⟩)
theorem r02_MatchL_loop (a0 : List XTerm) (a1 : List XLabel) (hp0 : a0.length ≤ 4294967296) (hp1 : a1.length ≤ 4294967296) (hp2 : ∀ q ∈ a0, q.Fine) (hlen : a0.length < 4611686018427387904) (z : { z : Nat // z ≤ a0.length }) (Q : Exit → St → Prop) (h : (r02_MatchLT a0 a1 z.1).All Q) : Tr Tryd.prog 0 (.loop (loopAt Tryd.f25 0)) (r02_MatchLS a0 a1 z.1) Q := by
  refine Tr_loopT (kok _ _ _ _ _ _) (E := E_r02_Match) (ι := { z : Nat // z ≤ a0.length }) 60 0 (fun z => loopsOf [(2, r02_MatchL1S a0 a1 z.1 false 0, [], .need [0 ≤ (z.1 : Int) ∧ (z.1 : Int) < (a0.length : Int)] (r02_MatchL1T a0 a1 z.1 false 0))]) (fun z => r02_MatchLS a0 a1 z.1) (fun z => r02_MatchLT a0 a1 z.1) (fun z => r02_MatchLR a0 a1 z.1) (fun z => a0.length - z.1) (fun z => by obtain ⟨i, hi⟩ := z; exact LoopsOk.one (g := loopSub (loopAt Tryd.f25 0) 0 0) (b := 2) (by kernel_rfl) (by kernel_rfl) (by kernel_rfl) (by kernel_rfl) (fun Q h => r02_MatchL1_loop a0 a1 i hp0 hp1 hp2 (by omega) (h.1 _ List.mem_cons_self) ⟨(false, 0), by first | exact Nat.zero_le _ | (show 0 ≤ a1.length; omega) | (show 0 ≤ a1.length; exact ⟨Nat.zero_le _, by assumption⟩) | (show 0 ≤ a1.length; simp)⟩ Q h.2)) (fun z => by obtain ⟨i, hi⟩ := z; kernel_rfl) (fun z => by obtain ⟨i, hi⟩ := z; kernel_rfl) (fun z => by obtain ⟨i, hi⟩ := z; kernel_rfl) ?_ z Q h
  rintro ⟨i, hi⟩ Q hT
  replace hT : (r02_MatchLT a0 a1 i).All Q := hT
  replace hi : i ≤ a0.length := hi
  show (r02_MatchLR a0 a1 i).All _
  unfold r02_MatchLR
  refine ⟨fun h0 => ?_, fun h0 => ?_⟩
  · have hlt : i < a0.length := by simpa using h0
    have hd := drop_getD hlt
    have hw := wrap_succ (i := i) (by omega)
    refine ⟨need_cons (by first | assumption | omega | (intro; omega) | (simp only [decide_eq_true_eq, decide_eq_false_iff_not, Bool.cond_false_right, Bool.cond_true_right, Bool.cond_true_left, Bool.cond_false_left, Bool.and_eq_true, Bool.or_eq_true, Bool.not_eq_true', bytesLim, maxLen, List.length_cons, List.length_nil, List.length_append, byteSize_lit] at *; omega) | (intro; simp only [decide_eq_true_eq, decide_eq_false_iff_not, Bool.cond_false_right, Bool.cond_true_right, Bool.cond_true_left, Bool.cond_false_left, Bool.and_eq_true, Bool.or_eq_true, Bool.not_eq_true', bytesLim, maxLen, List.length_cons, List.length_nil, List.length_append, byteSize_lit] at *; omega)) (need_nil), ?_⟩
    refine ⟨fun h1 => ?_, fun h1 => ?_⟩
    · have hF : r02_MatchLF a0 a1 (a0.drop i) i = true := by rw [hd]; first | exact (cond_t h1 rfl) | simp only [r02_MatchLF, h0, h1, cond_true, cond_false]
      unfold r02_MatchLT at hT
      rw [hF] at hT
      exact hT.1 rfl
    · have hF : r02_MatchLF a0 a1 (a0.drop i) i = r02_MatchLF a0 a1 (a0.drop (i + 1)) (i + 1) := by rw [hd]; first | exact (cond_f h1 rfl) | simp only [r02_MatchLF, h0, h1, cond_true, cond_false]
      refine ⟨⟨(i + 1), by show (i + 1) ≤ a0.length; omega⟩, by show a0.length - (i + 1) < a0.length - i; omega, ?_, ?_⟩
      · show _ = r02_MatchLS a0 a1 (i + 1)
        unfold r02_MatchLS
        simp only [hw]
      · show (r02_MatchLT a0 a1 (i + 1)).All Q
        unfold r02_MatchLT at hT ⊢
        rw [hF] at hT
        exact hT
  · have hge : ¬ i < a0.length := by simpa using h0
    have hd : a0.drop i = [] := List.drop_eq_nil_of_le (by omega)
    have hF : r02_MatchLF a0 a1 (a0.drop i) i = false := by rw [hd]; first | exact rfl | simp only [r02_MatchLF, h0, cond_true, cond_false]
    unfold r02_MatchLT at hT
    rw [hF] at hT
    exact hT.2 rfl
def r02_MatchF (a0 : List XTerm) (a1 : List XLabel) : Bool :=
  cond (r02_MatchLF a0 a1 a0 0)
    false
    true
def r02_MatchR (a0 : List XTerm) (a1 : List XLabel) : RT :=
  (.ask (r02_MatchLF a0 a1 a0 0)
    (.leaf .ret ⟨slots 49 [(4, .bool false)], []⟩ [])
    (.leaf .ret ⟨slots 49 [(4, .bool true)], []⟩ []))
theorem r02_MatchF_tr (a0 : List XTerm) (a1 : List XLabel) (hp0 : a0.length ≤ 4294967296) (hp1 : a1.length ≤ 4294967296) (hp2 : ∀ q ∈ a0, q.Fine) : Tr Tryd.prog 0 (bodyOf Tryd.f25) (fnBegins Tryd.f25 [.coll ⟨.term, a0⟩, .coll ⟨.label, a1⟩] []) (fnEnds Tryd.prog Tryd.f25 (.bool (r02_MatchF a0 a1)) []) := by
  refine Tr_tree (kok _ _ _ _ _ _) (E := E_r02_Match) (L := (loopsOf [(0, r02_MatchLS a0 a1 0, [], r02_MatchLT a0 a1 0)])) 60 9999 (LoopsOk.one (g := loopAt Tryd.f25 0) (b := 0) (by kernel_rfl) (by kernel_rfl) (by kernel_rfl) (by kernel_rfl) (fun Q h => r02_MatchL_loop a0 a1 hp0 hp1 hp2 (by omega) ⟨0, by first | exact Nat.zero_le _ | (show 0 ≤ a0.length; omega) | (show 0 ≤ a0.length; exact ⟨Nat.zero_le _, by assumption⟩) | (show 0 ≤ a0.length; simp)⟩ Q h)) (r02_MatchR a0 a1) (by kernel_rfl) (by kernel_rfl) (by kernel_rfl) ?_
  unfold r02_MatchR
  refine ⟨fun h0 => ?_, fun h0 => ?_⟩
  · have hF : r02_MatchF a0 a1 = false := by first | exact (cond_t h0 rfl) | simp only [r02_MatchF, h0, cond_true, cond_false]
    exact ⟨trivial, .inl (by first | (rw [hF]; kernel_rfl) | kernel_rfl), by first | (rw [hF]; kernel_rfl) | kernel_rfl⟩
  · have hF : r02_MatchF a0 a1 = true := by first | exact (cond_f h0 rfl) | simp only [r02_MatchF, h0, cond_true, cond_false]
    exact ⟨trivial, .inl (by first | (rw [hF]; kernel_rfl) | kernel_rfl), by first | (rw [hF]; kernel_rfl) | kernel_rfl⟩
noncomputable def r02_Match_fact : Fact Tryd.prog := factOf 25 Tryd.f25 (by kernel_rfl) rfl (by kernel_rfl) [.c (.coll .term), .c (.coll .label)] [] true (fun t u => .bool (r02_MatchF t.1 t.2.1)) (fun t u => []) (fun t u => [t.1.length ≤ 4294967296, t.2.1.length ≤ 4294967296, ∀ q ∈ t.1, q.Fine])
  (fun _ _ _ => rfl) (fun t u => by kernel_rfl) (fun t u => by kernel_rfl) (fun t u h => r02_MatchF_tr t.1 t.2.1 (h _ List.mem_cons_self) (h _ (List.mem_cons_of_mem _ List.mem_cons_self)) (h _ (List.mem_cons_of_mem _ (List.mem_cons_of_mem _ List.mem_cons_self))))
end Go.Proofs.YtbjlmmeabonbpaaDoor
