/- Attach: what is done next for a volume. -/
import Derived.Test.YtbcnehpndoghcaaDH3
set_option linter.unusedVariables false
set_option linter.unusedSimpArgs false
set_option maxRecDepth 100000
namespace Go.Proofs.Ytbcnehpndoghcaa
open Go Go.Eng
noncomputable def E_slices_Index_string_string : Env := envOf (P := Try.prog) [] [] [] ckf
def slices_Index_string_stringLF (a1 : ByteArray) : List ByteArray → Nat → Bool × Int
  | [], i => (false, default)
  | o :: r, i => cond (decide (a1 = o))
    (true, (i : Int))
    (slices_Index_string_stringLF a1 r (i + 1))
def slices_Index_string_stringLS (a1 : ByteArray) (b0 : List ByteArray) (i : Nat) : St :=
  ⟨slots 19 [(0, .vec 0), (1, .str a1), (7, .int .i64 (b0.length : Int)), (8, .int .i64 (i : Int))], [.vec false ⟨.str, b0⟩]⟩
def slices_Index_string_stringLR (a1 : ByteArray) (b0 : List ByteArray) (i : Nat) : RT :=
  (.ask (decide ((i : Int) < (b0.length : Int)))
    (.need [0 ≤ (i : Int) ∧ (i : Int) < (b0.length : Int)]
      (.ask (decide (a1 = (b0.getD i default)))
        (.leaf .ret ⟨slots 19 [(4, .int .i64 (i : Int))], [.vec false ⟨.str, b0⟩]⟩ [])
        (.leaf .normal ⟨slots 19 [(0, .vec 0), (1, .str a1), (7, .int .i64 (b0.length : Int)), (8, .int .i64 (IntKind.i64.wrap ((i : Int) + (1 : Int))))], [.vec false ⟨.str, b0⟩]⟩ [])))
    (.leaf (.exit 0) ⟨slots 19 [], [.vec false ⟨.str, b0⟩]⟩ []))
def slices_Index_string_stringLT (a1 : ByteArray) (b0 : List ByteArray) (i : Nat) : Tree :=
  .ask ((slices_Index_string_stringLF a1 (b0.drop i) i).1) (.leaf .ret ⟨slots 19 [(4, .int .i64 ((slices_Index_string_stringLF a1 (b0.drop i) i).2))], [.vec false ⟨.str, b0⟩]⟩) (.leaf (.exit 0) ⟨slots 19 [], [.vec false ⟨.str, b0⟩]⟩)
theorem slices_Index_string_stringL_loop (a1 : ByteArray) (b0 : List ByteArray) (hp0 : b0.length < 4611686018427387904) (hlen : b0.length < 4611686018427387904) (z : { z : Nat // z ≤ b0.length }) (Q : Exit → St → Prop) (h : (slices_Index_string_stringLT a1 b0 z.1).All Q) : Tr Try.prog 1 (.loop (loopAt Try.f63 0)) (slices_Index_string_stringLS a1 b0 z.1) Q := by
  refine Tr_loopT (kok _ _ _ _ _ _) (E := E_slices_Index_string_string) (ι := { z : Nat // z ≤ b0.length }) 60 0 (fun _ => noLoops) (fun z => slices_Index_string_stringLS a1 b0 z.1) (fun z => slices_Index_string_stringLT a1 b0 z.1) (fun z => slices_Index_string_stringLR a1 b0 z.1) (fun z => b0.length - z.1) (fun _ => LoopsOk.none) (fun z => by obtain ⟨i, hi⟩ := z; kernel_rfl) (fun z => by obtain ⟨i, hi⟩ := z; kernel_rfl) (fun z => by obtain ⟨i, hi⟩ := z; kernel_rfl) ?_ z Q h
  rintro ⟨i, hi⟩ Q hT
  replace hT : (slices_Index_string_stringLT a1 b0 i).All Q := hT
  replace hi : i ≤ b0.length := hi
  show (slices_Index_string_stringLR a1 b0 i).All _
  unfold slices_Index_string_stringLR
  refine ⟨fun h0 => ?_, fun h0 => ?_⟩
  · have hlt : i < b0.length := by simpa using h0
    have hd := drop_getD hlt
    have hw := wrap_succ (i := i) (by omega)
    refine ⟨need_cons (by first | assumption | omega | (intro; omega) | (simp only [decide_eq_true_eq, decide_eq_false_iff_not, Bool.cond_false_right, Bool.cond_true_right, Bool.cond_true_left, Bool.cond_false_left, Bool.and_eq_true, Bool.or_eq_true, Bool.not_eq_true', bytesLim, maxLen, List.length_cons, List.length_nil, List.length_append, byteSize_lit] at *; omega) | (intro; simp only [decide_eq_true_eq, decide_eq_false_iff_not, Bool.cond_false_right, Bool.cond_true_right, Bool.cond_true_left, Bool.cond_false_left, Bool.and_eq_true, Bool.or_eq_true, Bool.not_eq_true', bytesLim, maxLen, List.length_cons, List.length_nil, List.length_append, byteSize_lit] at *; omega)) (need_nil), ?_⟩
    refine ⟨fun h1 => ?_, fun h1 => ?_⟩
    · have hF : slices_Index_string_stringLF a1 (b0.drop i) i = (true, (i : Int)) := by rw [hd]; first | exact (cond_t h1 rfl) | simp only [slices_Index_string_stringLF, h0, h1, cond_true, cond_false]
      unfold slices_Index_string_stringLT at hT
      rw [hF] at hT
      exact hT.1 rfl
    · have hF : slices_Index_string_stringLF a1 (b0.drop i) i = slices_Index_string_stringLF a1 (b0.drop (i + 1)) (i + 1) := by rw [hd]; first | exact (cond_f h1 rfl) | simp only [slices_Index_string_stringLF, h0, h1, cond_true, cond_false]
      refine ⟨⟨(i + 1), by show (i + 1) ≤ b0.length; omega⟩, by show b0.length - (i + 1) < b0.length - i; omega, ?_, ?_⟩
      · show _ = slices_Index_string_stringLS a1 b0 (i + 1)
        unfold slices_Index_string_stringLS
        simp only [hw]
      · show (slices_Index_string_stringLT a1 b0 (i + 1)).All Q
        unfold slices_Index_string_stringLT at hT ⊢
        rw [hF] at hT
        exact hT
  · have hge : ¬ i < b0.length := by simpa using h0
    have hd : b0.drop i = [] := List.drop_eq_nil_of_le (by omega)
    have hF : slices_Index_string_stringLF a1 (b0.drop i) i = (false, default) := by rw [hd]; first | exact rfl | simp only [slices_Index_string_stringLF, h0, cond_true, cond_false]
    unfold slices_Index_string_stringLT at hT
    rw [hF] at hT
    exact hT.2 rfl
def slices_Index_string_stringF (a1 : ByteArray) (b0 : List ByteArray) : Int :=
  cond ((slices_Index_string_stringLF a1 b0 0).1)
    ((slices_Index_string_stringLF a1 b0 0).2)
    (-1 : Int)
def slices_Index_string_stringR (a1 : ByteArray) (b0 : List ByteArray) : RT :=
  (.ask ((slices_Index_string_stringLF a1 b0 0).1)
    (.leaf .ret ⟨slots 19 [(4, .int .i64 ((slices_Index_string_stringLF a1 b0 0).2))], [.vec false ⟨.str, b0⟩]⟩ [])
    (.leaf .ret ⟨slots 19 [(4, .int .i64 (-1))], [.vec false ⟨.str, b0⟩]⟩ []))
theorem slices_Index_string_stringF_tr (a1 : ByteArray) (b0 : List ByteArray) (hp0 : b0.length < 4611686018427387904) : Tr Try.prog 1 (bodyOf Try.f63) (fnBegins Try.f63 [.vec 0, .str a1] [.vec false ⟨.str, b0⟩]) (fnEnds Try.prog Try.f63 (.int .i64 (slices_Index_string_stringF a1 b0)) [.vec false ⟨.str, b0⟩]) := by
  refine Tr_tree (kok _ _ _ _ _ _) (E := E_slices_Index_string_string) (L := (loopsOf [(0, slices_Index_string_stringLS a1 b0 0, [], slices_Index_string_stringLT a1 b0 0)])) 60 9999 (LoopsOk.one (g := loopAt Try.f63 0) (b := 0) (by kernel_rfl) (by kernel_rfl) (by kernel_rfl) (by kernel_rfl) (fun Q h => slices_Index_string_stringL_loop a1 b0 hp0 (by first | assumption | omega | (simp only [List.length_cons, List.length_nil, List.length_append]; omega)) ⟨0, by first | exact Nat.zero_le _ | (show 0 ≤ b0.length; omega) | (show 0 ≤ b0.length; exact ⟨Nat.zero_le _, by assumption⟩) | (show 0 ≤ b0.length; simp)⟩ Q h)) (slices_Index_string_stringR a1 b0) (by kernel_rfl) (by kernel_rfl) (by kernel_rfl) ?_
  unfold slices_Index_string_stringR
  refine ⟨fun h0 => ?_, fun h0 => ?_⟩
  · have hF : slices_Index_string_stringF a1 b0 = ((slices_Index_string_stringLF a1 b0 0).2) := by first | exact (cond_t h0 rfl) | simp only [slices_Index_string_stringF, h0, cond_true, cond_false]
    exact ⟨trivial, .inl (by first | (rw [hF]; kernel_rfl) | kernel_rfl), by first | (rw [hF]; kernel_rfl) | kernel_rfl⟩
  · have hF : slices_Index_string_stringF a1 b0 = (-1 : Int) := by first | exact (cond_f h0 rfl) | simp only [slices_Index_string_stringF, h0, cond_true, cond_false]
    exact ⟨trivial, .inl (by first | (rw [hF]; kernel_rfl) | kernel_rfl), by first | (rw [hF]; kernel_rfl) | kernel_rfl⟩
noncomputable def slices_Index_string_string_fact : Fact Try.prog := factOf 63 Try.f63 (by kernel_rfl) rfl (by kernel_rfl) [.c (.vec 0), .c (.str)] [.vec false .str] true (fun t u => .int .i64 (slices_Index_string_stringF t.2.1 u.1)) (fun t u => HPL.enc _ u) (fun t u => [u.1.length < 4611686018427387904])
  (fun _ _ _ => rfl) (fun t u => by kernel_rfl) (fun t u => by kernel_rfl) (fun t u h => slices_Index_string_stringF_tr t.2.1 u.1 (h _ List.mem_cons_self))
noncomputable def E_slices_Contains_string_string : Env := envOf (P := Try.prog) [slices_Index_string_string_fact] [] [] ckf
def slices_Contains_string_stringF (a1 : ByteArray) (b0 : List ByteArray) : Bool :=
  decide ((slices_Index_string_stringF a1 b0) ≥ (0 : Int))
def slices_Contains_string_stringR (a1 : ByteArray) (b0 : List ByteArray) : RT :=
  (.need [b0.length < 4611686018427387904]
    (.leaf .ret ⟨slots 9 [(4, .bool (decide ((slices_Index_string_stringF a1 b0) ≥ (0 : Int))))], [.vec false ⟨.str, b0⟩]⟩ []))
theorem slices_Contains_string_stringF_tr (a1 : ByteArray) (b0 : List ByteArray) (hp0 : b0.length < 4611686018427387904) : Tr Try.prog 1 (bodyOf Try.f35) (fnBegins Try.f35 [.vec 0, .str a1] [.vec false ⟨.str, b0⟩]) (fnEnds Try.prog Try.f35 (.bool (slices_Contains_string_stringF a1 b0)) [.vec false ⟨.str, b0⟩]) := by
  refine Tr_tree (kok _ _ _ _ _ _) (E := E_slices_Contains_string_string) (L := noLoops) 60 9999 LoopsOk.none (slices_Contains_string_stringR a1 b0) (by kernel_rfl) (by kernel_rfl) (by kernel_rfl) ?_
  unfold slices_Contains_string_stringR
  refine ⟨need_cons (by first | assumption | omega | (intro; omega) | (simp only [decide_eq_true_eq, decide_eq_false_iff_not, Bool.cond_false_right, Bool.cond_true_right, Bool.cond_true_left, Bool.cond_false_left, Bool.and_eq_true, Bool.or_eq_true, Bool.not_eq_true', bytesLim, maxLen, List.length_cons, List.length_nil, List.length_append, byteSize_lit] at *; omega) | (intro; simp only [decide_eq_true_eq, decide_eq_false_iff_not, Bool.cond_false_right, Bool.cond_true_right, Bool.cond_true_left, Bool.cond_false_left, Bool.and_eq_true, Bool.or_eq_true, Bool.not_eq_true', bytesLim, maxLen, List.length_cons, List.length_nil, List.length_append, byteSize_lit] at *; omega)) (need_nil), ?_⟩
  exact ⟨trivial, .inl (by kernel_rfl), by kernel_rfl⟩
noncomputable def slices_Contains_string_string_fact : Fact Try.prog := factOf 35 Try.f35 (by kernel_rfl) rfl (by kernel_rfl) [.c (.vec 0), .c (.str)] [.vec false .str] true (fun t u => .bool (slices_Contains_string_stringF t.2.1 u.1)) (fun t u => HPL.enc _ u) (fun t u => [u.1.length < 4611686018427387904])
  (fun _ _ _ => rfl) (fun t u => by kernel_rfl) (fun t u => by kernel_rfl) (fun t u h => slices_Contains_string_stringF_tr t.2.1 u.1 (h _ List.mem_cons_self))
noncomputable def E_attach_ask : Env := envOf (P := Try.prog) [] [] [] ckf
def attach_askF (a0 : Int) (a1 : XObj) : XAct :=
  (⟨(3 : Int), (default : XObj), (⟨a0, a1.volume, a1.num, (0 : Int), (⟨#[]⟩ : ByteArray), a1.node, (⟨#[]⟩ : ByteArray)⟩ : XCall)⟩ : XAct)
def attach_askR (a0 : Int) (a1 : XObj) : RT :=
  (.leaf .ret ⟨slots 14 [(4, .ptr 0 0)], [.cells 42 [.int .u8 3, .int .u8 0, .str (⟨#[]⟩ : ByteArray), .int .u64 0, .int .u64 0, .bool false, .bool false, .str (⟨#[]⟩ : ByteArray), .int .i64 0, .int .i64 0, .int .u8 0, .bool false, .bool false, .str (⟨#[]⟩ : ByteArray), .str (⟨#[]⟩ : ByteArray), .str (⟨#[]⟩ : ByteArray), .str (⟨#[]⟩ : ByteArray), .str (⟨#[]⟩ : ByteArray), .int .u8 0, .int .u64 0, .int .u64 0, .int .u8 a0, .str a1.volume, .int .u64 a1.num, .int .i64 0, .str (⟨#[]⟩ : ByteArray), .str a1.node, .str (⟨#[]⟩ : ByteArray)]]⟩ [1])
theorem attach_askF_tr (a0 : Int) (a1 : XObj)  : Tr Try.prog 0 (bodyOf Try.f36) (fnBegins Try.f36 [.int .u8 a0, .agg (oc a1)] []) (fnEnds Try.prog Try.f36 (.agg (ac (attach_askF a0 a1))) []) := by
  refine Tr_tree (kok _ _ _ _ _ _) (E := E_attach_ask) (L := noLoops) 60 9999 LoopsOk.none (attach_askR a0 a1) (by kernel_rfl) (by kernel_rfl) (by kernel_rfl) ?_
  unfold attach_askR
  exact ⟨trivial, .inl (by kernel_rfl), by kernel_rfl⟩
noncomputable def attach_ask_fact : Fact Try.prog := factOf 36 Try.f36 (by kernel_rfl) rfl (by kernel_rfl) [.c (.int .u8), .st .obj] [] true (fun t u => .agg (ac (attach_askF t.1 t.2.1))) (fun t u => []) (fun t u => [])
  (fun _ _ _ => rfl) (fun t u => by kernel_rfl) (fun t u => by kernel_rfl) (fun t u h => attach_askF_tr t.1 t.2.1 )
noncomputable def E_attach_write : Env := envOf (P := Try.prog) [] [] [] ckf
def attach_writeF (a0 : XObj) (a1 : Int) (a2 : Int) : XAct :=
  (⟨(1 : Int), ({ a0 with phase := a1, num := (IntKind.u64.wrap (a2 + (1 : Int))) } : XObj), (default : XCall)⟩ : XAct)
def attach_writeR (a0 : XObj) (a1 : Int) (a2 : Int) : RT :=
  (.leaf .ret ⟨slots 14 [(6, .ptr 0 0)], [.cells 42 [.int .u8 1, .int .u8 a0.kind, .str a0.name, .int .u64 a0.version, .int .u64 a0.born, .bool a0.deleting, .bool a0.hold, .str a0.cls, .int .i64 a0.size, .int .i64 a0.got, .int .u8 a0.mode, .bool a0.keep, .bool a0.wait, .str a0.zone, .str a0.node, .str a0.claim, .str a0.volume, .str a0.source, .int .u8 a1, .int .u64 (IntKind.u64.wrap (a2 + (1 : Int))), .int .u64 a0.tag, .int .u8 0, .str (⟨#[]⟩ : ByteArray), .int .u64 0, .int .i64 0, .str (⟨#[]⟩ : ByteArray), .str (⟨#[]⟩ : ByteArray), .str (⟨#[]⟩ : ByteArray)]]⟩ [1])
theorem attach_writeF_tr (a0 : XObj) (a1 : Int) (a2 : Int)  : Tr Try.prog 0 (bodyOf Try.f37) (fnBegins Try.f37 [.agg (oc a0), .int .u8 a1, .int .u64 a2] []) (fnEnds Try.prog Try.f37 (.agg (ac (attach_writeF a0 a1 a2))) []) := by
  refine Tr_tree (kok _ _ _ _ _ _) (E := E_attach_write) (L := noLoops) 60 9999 LoopsOk.none (attach_writeR a0 a1 a2) (by kernel_rfl) (by kernel_rfl) (by kernel_rfl) ?_
  unfold attach_writeR
  exact ⟨trivial, .inl (by kernel_rfl), by kernel_rfl⟩
noncomputable def attach_write_fact : Fact Try.prog := factOf 37 Try.f37 (by kernel_rfl) rfl (by kernel_rfl) [.st .obj, .c (.int .u8), .c (.int .u64)] [] true (fun t u => .agg (ac (attach_writeF t.1 t.2.1 t.2.2.1))) (fun t u => []) (fun t u => [])
  (fun _ _ _ => rfl) (fun t u => by kernel_rfl) (fun t u => by kernel_rfl) (fun t u h => attach_writeF_tr t.1 t.2.1 t.2.2.1 )
noncomputable def E_attach_Volume_1 : Env := envOf (P := Try.prog) [] [] [] ckf
def attach_Volume_1F (a0 : XObj) (b0 : ByteArray) : Bool :=
  decide (a0.node = b0)
def attach_Volume_1R (a0 : XObj) (b0 : ByteArray) : RT :=
  (.leaf .ret ⟨slots 8 [(3, .bool (decide (a0.node = b0)))], [.cells 9 [.str b0]]⟩ [])
theorem attach_Volume_1F_tr (a0 : XObj) (b0 : ByteArray)  : Tr Try.prog 1 (bodyOf Try.f39) (fnBegins Try.f39 [.agg (oc a0), .ptr 0 0] [.cells 9 [.str b0]]) (fnEnds Try.prog Try.f39 (.bool (attach_Volume_1F a0 b0)) [.cells 9 [.str b0]]) := by
  refine Tr_tree (kok _ _ _ _ _ _) (E := E_attach_Volume_1) (L := noLoops) 60 9999 LoopsOk.none (attach_Volume_1R a0 b0) (by kernel_rfl) (by kernel_rfl) (by kernel_rfl) ?_
  unfold attach_Volume_1R
  exact ⟨trivial, .inl (by kernel_rfl), by kernel_rfl⟩
noncomputable def attach_Volume_1_fact : Fact Try.prog := factOf 39 Try.f39 (by kernel_rfl) rfl (by kernel_rfl) [.st .obj, .c (.ptr 0 0)] [.cells 9 [.str]] true (fun t u => .bool (attach_Volume_1F t.1 u.1.1)) (fun t u => HPL.enc _ u) (fun t u => [])
  (fun _ _ _ => rfl) (fun t u => by kernel_rfl) (fun t u => by kernel_rfl) (fun t u h => attach_Volume_1F_tr t.1 u.1.1 )
noncomputable def E_api_Object_2 : Env := envOf (P := Try.prog) [attach_Volume_1_fact] [] [] ckf
def api_Object_2LF (b1 : ByteArray) : List XObj → Nat → Bool × Int
  | [], i => (false, default)
  | o :: r, i => cond (attach_Volume_1F o b1)
    (true, (i : Int))
    (api_Object_2LF b1 r (i + 1))
def api_Object_2LS (b0 : List XObj) (b1 : ByteArray) (i : Nat) : St :=
  ⟨slots 19 [(0, .vec 0), (1, .fn 39 [.ptr 1 0]), (7, .int .i64 (b0.length : Int)), (8, .int .i64 (i : Int))], [.vec false ⟨.obj, b0⟩, .cells 9 [.str b1]]⟩
def api_Object_2LR (b0 : List XObj) (b1 : ByteArray) (i : Nat) : RT :=
  (.ask (decide ((i : Int) < (b0.length : Int)))
    (.need [0 ≤ (i : Int) ∧ (i : Int) < (b0.length : Int)]
      (.ask (attach_Volume_1F (b0.getD i default) b1)
        (.leaf .ret ⟨slots 19 [(4, .int .i64 (i : Int))], [.vec false ⟨.obj, b0⟩, .cells 9 [.str b1]]⟩ [])
        (.leaf .normal ⟨slots 19 [(0, .vec 0), (1, .fn 39 [.ptr 1 0]), (7, .int .i64 (b0.length : Int)), (8, .int .i64 (IntKind.i64.wrap ((i : Int) + (1 : Int))))], [.vec false ⟨.obj, b0⟩, .cells 9 [.str b1]]⟩ [])))
    (.leaf (.exit 0) ⟨slots 19 [], [.vec false ⟨.obj, b0⟩, .cells 9 [.str b1]]⟩ []))
def api_Object_2LT (b0 : List XObj) (b1 : ByteArray) (i : Nat) : Tree :=
  .ask ((api_Object_2LF b1 (b0.drop i) i).1) (.leaf .ret ⟨slots 19 [(4, .int .i64 ((api_Object_2LF b1 (b0.drop i) i).2))], [.vec false ⟨.obj, b0⟩, .cells 9 [.str b1]]⟩) (.leaf (.exit 0) ⟨slots 19 [], [.vec false ⟨.obj, b0⟩, .cells 9 [.str b1]]⟩)
theorem api_Object_2L_loop (b0 : List XObj) (b1 : ByteArray) (hp0 : b0.length < 4611686018427387904) (hlen : b0.length < 4611686018427387904) (z : { z : Nat // z ≤ b0.length }) (Q : Exit → St → Prop) (h : (api_Object_2LT b0 b1 z.1).All Q) : Tr Try.prog 2 (.loop (loopAt Try.f51 0)) (api_Object_2LS b0 b1 z.1) Q := by
  refine Tr_loopT (kok _ _ _ _ _ _) (E := E_api_Object_2) (ι := { z : Nat // z ≤ b0.length }) 60 0 (fun _ => noLoops) (fun z => api_Object_2LS b0 b1 z.1) (fun z => api_Object_2LT b0 b1 z.1) (fun z => api_Object_2LR b0 b1 z.1) (fun z => b0.length - z.1) (fun _ => LoopsOk.none) (fun z => by obtain ⟨i, hi⟩ := z; kernel_rfl) (fun z => by obtain ⟨i, hi⟩ := z; kernel_rfl) (fun z => by obtain ⟨i, hi⟩ := z; kernel_rfl) ?_ z Q h
  rintro ⟨i, hi⟩ Q hT
  replace hT : (api_Object_2LT b0 b1 i).All Q := hT
  replace hi : i ≤ b0.length := hi
  show (api_Object_2LR b0 b1 i).All _
  unfold api_Object_2LR
  refine ⟨fun h0 => ?_, fun h0 => ?_⟩
  · have hlt : i < b0.length := by simpa using h0
    have hd := drop_getD hlt
    have hw := wrap_succ (i := i) (by omega)
    refine ⟨need_cons (by first | assumption | omega | (intro; omega) | (simp only [decide_eq_true_eq, decide_eq_false_iff_not, Bool.cond_false_right, Bool.cond_true_right, Bool.cond_true_left, Bool.cond_false_left, Bool.and_eq_true, Bool.or_eq_true, Bool.not_eq_true', bytesLim, maxLen, List.length_cons, List.length_nil, List.length_append, byteSize_lit] at *; omega) | (intro; simp only [decide_eq_true_eq, decide_eq_false_iff_not, Bool.cond_false_right, Bool.cond_true_right, Bool.cond_true_left, Bool.cond_false_left, Bool.and_eq_true, Bool.or_eq_true, Bool.not_eq_true', bytesLim, maxLen, List.length_cons, List.length_nil, List.length_append, byteSize_lit] at *; omega)) (need_nil), ?_⟩
    refine ⟨fun h1 => ?_, fun h1 => ?_⟩
    · have hF : api_Object_2LF b1 (b0.drop i) i = (true, (i : Int)) := by rw [hd]; first | exact (cond_t h1 rfl) | simp only [api_Object_2LF, h0, h1, cond_true, cond_false]
      unfold api_Object_2LT at hT
      rw [hF] at hT
      exact hT.1 rfl
    · have hF : api_Object_2LF b1 (b0.drop i) i = api_Object_2LF b1 (b0.drop (i + 1)) (i + 1) := by rw [hd]; first | exact (cond_f h1 rfl) | simp only [api_Object_2LF, h0, h1, cond_true, cond_false]
      refine ⟨⟨(i + 1), by show (i + 1) ≤ b0.length; omega⟩, by show b0.length - (i + 1) < b0.length - i; omega, ?_, ?_⟩
      · show _ = api_Object_2LS b0 b1 (i + 1)
        unfold api_Object_2LS
        simp only [hw]
      · show (api_Object_2LT b0 b1 (i + 1)).All Q
        unfold api_Object_2LT at hT ⊢
        rw [hF] at hT
        exact hT
  · have hge : ¬ i < b0.length := by simpa using h0
    have hd : b0.drop i = [] := List.drop_eq_nil_of_le (by omega)
    have hF : api_Object_2LF b1 (b0.drop i) i = (false, default) := by rw [hd]; first | exact rfl | simp only [api_Object_2LF, h0, cond_true, cond_false]
    unfold api_Object_2LT at hT
    rw [hF] at hT
    exact hT.2 rfl
def api_Object_2F (b0 : List XObj) (b1 : ByteArray) : Int :=
  cond ((api_Object_2LF b1 b0 0).1)
    ((api_Object_2LF b1 b0 0).2)
    (-1 : Int)
def api_Object_2R (b0 : List XObj) (b1 : ByteArray) : RT :=
  (.ask ((api_Object_2LF b1 b0 0).1)
    (.leaf .ret ⟨slots 19 [(4, .int .i64 ((api_Object_2LF b1 b0 0).2))], [.vec false ⟨.obj, b0⟩, .cells 9 [.str b1]]⟩ [])
    (.leaf .ret ⟨slots 19 [(4, .int .i64 (-1))], [.vec false ⟨.obj, b0⟩, .cells 9 [.str b1]]⟩ []))
theorem api_Object_2F_tr (b0 : List XObj) (b1 : ByteArray) (hp0 : b0.length < 4611686018427387904) : Tr Try.prog 2 (bodyOf Try.f51) (fnBegins Try.f51 [.vec 0, .fn 39 [.ptr 1 0]] [.vec false ⟨.obj, b0⟩, .cells 9 [.str b1]]) (fnEnds Try.prog Try.f51 (.int .i64 (api_Object_2F b0 b1)) [.vec false ⟨.obj, b0⟩, .cells 9 [.str b1]]) := by
  refine Tr_tree (kok _ _ _ _ _ _) (E := E_api_Object_2) (L := (loopsOf [(0, api_Object_2LS b0 b1 0, [], api_Object_2LT b0 b1 0)])) 60 9999 (LoopsOk.one (g := loopAt Try.f51 0) (b := 0) (by kernel_rfl) (by kernel_rfl) (by kernel_rfl) (by kernel_rfl) (fun Q h => api_Object_2L_loop b0 b1 hp0 (by first | assumption | omega | (simp only [List.length_cons, List.length_nil, List.length_append]; omega)) ⟨0, by first | exact Nat.zero_le _ | (show 0 ≤ b0.length; omega) | (show 0 ≤ b0.length; exact ⟨Nat.zero_le _, by assumption⟩) | (show 0 ≤ b0.length; simp)⟩ Q h)) (api_Object_2R b0 b1) (by kernel_rfl) (by kernel_rfl) (by kernel_rfl) ?_
  unfold api_Object_2R
  refine ⟨fun h0 => ?_, fun h0 => ?_⟩
  · have hF : api_Object_2F b0 b1 = ((api_Object_2LF b1 b0 0).2) := by first | exact (cond_t h0 rfl) | simp only [api_Object_2F, h0, cond_true, cond_false]
    exact ⟨trivial, .inl (by first | (rw [hF]; kernel_rfl) | kernel_rfl), by first | (rw [hF]; kernel_rfl) | kernel_rfl⟩
  · have hF : api_Object_2F b0 b1 = (-1 : Int) := by first | exact (cond_f h0 rfl) | simp only [api_Object_2F, h0, cond_true, cond_false]
    exact ⟨trivial, .inl (by first | (rw [hF]; kernel_rfl) | kernel_rfl), by first | (rw [hF]; kernel_rfl) | kernel_rfl⟩
noncomputable def api_Object_2_fact : Fact Try.prog := factOf 51 Try.f51 (by kernel_rfl) rfl (by kernel_rfl) [.c (.vec 0), .fn 39 [.ptr 1 0]] [.vec false .obj, .cells 9 [.str]] true (fun t u => .int .i64 (api_Object_2F u.1 u.2.1.1)) (fun t u => HPL.enc _ u) (fun t u => [u.1.length < 4611686018427387904])
  (fun _ _ _ => rfl) (fun t u => by kernel_rfl) (fun t u => by kernel_rfl) (fun t u h => api_Object_2F_tr u.1 u.2.1.1 (h _ List.mem_cons_self))
noncomputable def E_api_Object : Env := envOf (P := Try.prog) [api_Object_2_fact] [] [] ckf
def api_ObjectF (b0 : List XObj) (b1 : ByteArray) : Bool :=
  decide ((api_Object_2F b0 b1) ≥ (0 : Int))
def api_ObjectR (b0 : List XObj) (b1 : ByteArray) : RT :=
  (.need [b0.length < 4611686018427387904]
    (.leaf .ret ⟨slots 9 [(4, .bool (decide ((api_Object_2F b0 b1) ≥ (0 : Int))))], [.vec false ⟨.obj, b0⟩, .cells 9 [.str b1]]⟩ []))
theorem api_ObjectF_tr (b0 : List XObj) (b1 : ByteArray) (hp0 : b0.length < 4611686018427387904) : Tr Try.prog 2 (bodyOf Try.f38) (fnBegins Try.f38 [.vec 0, .fn 39 [.ptr 1 0]] [.vec false ⟨.obj, b0⟩, .cells 9 [.str b1]]) (fnEnds Try.prog Try.f38 (.bool (api_ObjectF b0 b1)) [.vec false ⟨.obj, b0⟩, .cells 9 [.str b1]]) := by
  refine Tr_tree (kok _ _ _ _ _ _) (E := E_api_Object) (L := noLoops) 60 9999 LoopsOk.none (api_ObjectR b0 b1) (by kernel_rfl) (by kernel_rfl) (by kernel_rfl) ?_
  unfold api_ObjectR
  refine ⟨need_cons (by first | assumption | omega | (intro; omega) | (simp only [decide_eq_true_eq, decide_eq_false_iff_not, Bool.cond_false_right, Bool.cond_true_right, Bool.cond_true_left, Bool.cond_false_left, Bool.and_eq_true, Bool.or_eq_true, Bool.not_eq_true', bytesLim, maxLen, List.length_cons, List.length_nil, List.length_append, byteSize_lit] at *; omega) | (intro; simp only [decide_eq_true_eq, decide_eq_false_iff_not, Bool.cond_false_right, Bool.cond_true_right, Bool.cond_true_left, Bool.cond_false_left, Bool.and_eq_true, Bool.or_eq_true, Bool.not_eq_true', bytesLim, maxLen, List.length_cons, List.length_nil, List.length_append, byteSize_lit] at *; omega)) (need_nil), ?_⟩
  exact ⟨trivial, .inl (by kernel_rfl), by kernel_rfl⟩
noncomputable def api_Object_fact : Fact Try.prog := factOf 38 Try.f38 (by kernel_rfl) rfl (by kernel_rfl) [.c (.vec 0), .fn 39 [.ptr 1 0]] [.vec false .obj, .cells 9 [.str]] true (fun t u => .bool (api_ObjectF u.1 u.2.1.1)) (fun t u => HPL.enc _ u) (fun t u => [u.1.length < 4611686018427387904])
  (fun _ _ _ => rfl) (fun t u => by kernel_rfl) (fun t u => by kernel_rfl) (fun t u h => api_ObjectF_tr u.1 u.2.1.1 (h _ List.mem_cons_self))
noncomputable def E_attach_Volume : Env := envOf (P := Try.prog) [attach_get_fact, attach_Wanted_fact, attach_Attachments_fact, slices_Contains_string_string_fact, attach_ask_fact, attach_write_fact, api_Object_fact, object_Default_fact, object_Name_fact] [] [] ckf
def attach_VolumeLF (a0 : List XObj) (a1 : Int) (a2 : ByteArray) : List XObj → Bool × XAct
  | [] => (false, default)
  | o :: r => cond ((o.phase) == (9 : Int))
    (true, (attach_askF (4 : Int) o))
    (cond (!(slices_Contains_string_stringF (o.node) (attach_WantedF a0 a2)))
      (true, (attach_writeF o (9 : Int) a1))
      (cond ((o.phase) == (7 : Int))
        (true, (attach_askF (3 : Int) o))
        (attach_VolumeLF a0 a1 a2 r)))
def attach_VolumeLS (a0 : List XObj) (a1 : Int) (a2 : ByteArray) (i : Nat) : St :=
  ⟨slots 97 [(1, .int .u64 a1), (2, .str a2), (6, .ptr 0 0), (7, .ptr 1 0), (9, .vec 2), (10, .vec 3), (32, .vec 3), (33, .int .i64 ((attach_AttachmentsF a0 a2).length : Int)), (34, .int .i64 (i : Int))], [.cells 42 [.int .u8 0, .int .u8 0, .str (⟨#[]⟩ : ByteArray), .int .u64 0, .int .u64 0, .bool false, .bool false, .str (⟨#[]⟩ : ByteArray), .int .i64 0, .int .i64 0, .int .u8 0, .bool false, .bool false, .str (⟨#[]⟩ : ByteArray), .str (⟨#[]⟩ : ByteArray), .str (⟨#[]⟩ : ByteArray), .str (⟨#[]⟩ : ByteArray), .str (⟨#[]⟩ : ByteArray), .int .u8 0, .int .u64 0, .int .u64 0, .int .u8 0, .str (⟨#[]⟩ : ByteArray), .int .u64 0, .int .i64 0, .str (⟨#[]⟩ : ByteArray), .str (⟨#[]⟩ : ByteArray), .str (⟨#[]⟩ : ByteArray)], .cells 37 (oc ((attach_getF a0 (4 : Int) a2).1)), .vec false ⟨.str, attach_WantedF a0 a2⟩, .vec false ⟨.obj, attach_AttachmentsF a0 a2⟩]⟩
def attach_VolumeLR (a0 : List XObj) (a1 : Int) (a2 : ByteArray) (i : Nat) : RT :=
  (.ask (decide ((i : Int) < ((attach_AttachmentsF a0 a2).length : Int)))
    (.need [0 ≤ (i : Int) ∧ (i : Int) < ((attach_AttachmentsF a0 a2).length : Int)]
      (.need [(attach_WantedF a0 a2).length < 4611686018427387904]
        (.ask ((((attach_AttachmentsF a0 a2).getD i default).phase) == (9 : Int))
          (.leaf .ret ⟨slots 97 [(6, .ptr 0 0)], [.cells 42 (ac (attach_askF (4 : Int) ((attach_AttachmentsF a0 a2).getD i default)))]⟩ [])
          (.ask (!(slices_Contains_string_stringF (((attach_AttachmentsF a0 a2).getD i default).node) (attach_WantedF a0 a2)))
            (.leaf .ret ⟨slots 97 [(6, .ptr 0 0)], [.cells 42 (ac (attach_writeF ((attach_AttachmentsF a0 a2).getD i default) (9 : Int) a1))]⟩ [])
            (.ask ((((attach_AttachmentsF a0 a2).getD i default).phase) == (7 : Int))
              (.leaf .ret ⟨slots 97 [(6, .ptr 0 0)], [.cells 42 (ac (attach_askF (3 : Int) ((attach_AttachmentsF a0 a2).getD i default)))]⟩ [])
              (.leaf .normal ⟨slots 97 [(1, .int .u64 a1), (2, .str a2), (6, .ptr 0 0), (7, .ptr 1 0), (9, .vec 2), (10, .vec 3), (32, .vec 3), (33, .int .i64 ((attach_AttachmentsF a0 a2).length : Int)), (34, .int .i64 (IntKind.i64.wrap ((i : Int) + (1 : Int))))], [.cells 42 [.int .u8 0, .int .u8 0, .str (⟨#[]⟩ : ByteArray), .int .u64 0, .int .u64 0, .bool false, .bool false, .str (⟨#[]⟩ : ByteArray), .int .i64 0, .int .i64 0, .int .u8 0, .bool false, .bool false, .str (⟨#[]⟩ : ByteArray), .str (⟨#[]⟩ : ByteArray), .str (⟨#[]⟩ : ByteArray), .str (⟨#[]⟩ : ByteArray), .str (⟨#[]⟩ : ByteArray), .int .u8 0, .int .u64 0, .int .u64 0, .int .u8 0, .str (⟨#[]⟩ : ByteArray), .int .u64 0, .int .i64 0, .str (⟨#[]⟩ : ByteArray), .str (⟨#[]⟩ : ByteArray), .str (⟨#[]⟩ : ByteArray)], .cells 37 (oc ((attach_getF a0 (4 : Int) a2).1)), .vec false ⟨.str, attach_WantedF a0 a2⟩, .vec false ⟨.obj, attach_AttachmentsF a0 a2⟩]⟩ []))))))
    (.leaf (.exit 0) ⟨slots 97 [(1, .int .u64 a1), (2, .str a2), (6, .ptr 0 0), (7, .ptr 1 0), (9, .vec 2), (10, .vec 3)], [.cells 42 [.int .u8 0, .int .u8 0, .str (⟨#[]⟩ : ByteArray), .int .u64 0, .int .u64 0, .bool false, .bool false, .str (⟨#[]⟩ : ByteArray), .int .i64 0, .int .i64 0, .int .u8 0, .bool false, .bool false, .str (⟨#[]⟩ : ByteArray), .str (⟨#[]⟩ : ByteArray), .str (⟨#[]⟩ : ByteArray), .str (⟨#[]⟩ : ByteArray), .str (⟨#[]⟩ : ByteArray), .int .u8 0, .int .u64 0, .int .u64 0, .int .u8 0, .str (⟨#[]⟩ : ByteArray), .int .u64 0, .int .i64 0, .str (⟨#[]⟩ : ByteArray), .str (⟨#[]⟩ : ByteArray), .str (⟨#[]⟩ : ByteArray)], .cells 37 (oc ((attach_getF a0 (4 : Int) a2).1)), .vec false ⟨.str, attach_WantedF a0 a2⟩, .vec false ⟨.obj, attach_AttachmentsF a0 a2⟩]⟩ []))
def attach_VolumeLT (a0 : List XObj) (a1 : Int) (a2 : ByteArray) (i : Nat) : Tree :=
  .ask ((attach_VolumeLF a0 a1 a2 ((attach_AttachmentsF a0 a2).drop i)).1) (.leaf .ret ⟨slots 97 [(6, .ptr 0 0)], [.cells 42 (ac ((attach_VolumeLF a0 a1 a2 ((attach_AttachmentsF a0 a2).drop i)).2))]⟩) (.leaf (.exit 0) ⟨slots 97 [(1, .int .u64 a1), (2, .str a2), (6, .ptr 0 0), (7, .ptr 1 0), (9, .vec 2), (10, .vec 3)], [.cells 42 [.int .u8 0, .int .u8 0, .str (⟨#[]⟩ : ByteArray), .int .u64 0, .int .u64 0, .bool false, .bool false, .str (⟨#[]⟩ : ByteArray), .int .i64 0, .int .i64 0, .int .u8 0, .bool false, .bool false, .str (⟨#[]⟩ : ByteArray), .str (⟨#[]⟩ : ByteArray), .str (⟨#[]⟩ : ByteArray), .str (⟨#[]⟩ : ByteArray), .str (⟨#[]⟩ : ByteArray), .int .u8 0, .int .u64 0, .int .u64 0, .int .u8 0, .str (⟨#[]⟩ : ByteArray), .int .u64 0, .int .i64 0, .str (⟨#[]⟩ : ByteArray), .str (⟨#[]⟩ : ByteArray), .str (⟨#[]⟩ : ByteArray)], .cells 37 (oc ((attach_getF a0 (4 : Int) a2).1)), .vec false ⟨.str, attach_WantedF a0 a2⟩, .vec false ⟨.obj, attach_AttachmentsF a0 a2⟩]⟩)
theorem attach_VolumeL_loop (a0 : List XObj) (a1 : Int) (a2 : ByteArray) (hp0 : a0.length ≤ 64) (hp1 : ∀ o ∈ a0, o.Fine) (hp2 : a2.size ≤ 140737488351232) (hlen : (attach_AttachmentsF a0 a2).length < 4611686018427387904) (z : { z : Nat // z ≤ (attach_AttachmentsF a0 a2).length }) (Q : Exit → St → Prop) (h : (attach_VolumeLT a0 a1 a2 z.1).All Q) : Tr Try.prog 0 (.loop (loopAt Try.f19 0)) (attach_VolumeLS a0 a1 a2 z.1) Q := by
  refine Tr_loopT (kok _ _ _ _ _ _) (E := E_attach_Volume) (ι := { z : Nat // z ≤ (attach_AttachmentsF a0 a2).length }) 60 0 (fun _ => noLoops) (fun z => attach_VolumeLS a0 a1 a2 z.1) (fun z => attach_VolumeLT a0 a1 a2 z.1) (fun z => attach_VolumeLR a0 a1 a2 z.1) (fun z => (attach_AttachmentsF a0 a2).length - z.1) (fun _ => LoopsOk.none) (fun z => by obtain ⟨i, hi⟩ := z; kernel_rfl) (fun z => by obtain ⟨i, hi⟩ := z; kernel_rfl) (fun z => by obtain ⟨i, hi⟩ := z; kernel_rfl) ?_ z Q h
  rintro ⟨i, hi⟩ Q hT
  replace hT : (attach_VolumeLT a0 a1 a2 i).All Q := hT
  replace hi : i ≤ (attach_AttachmentsF a0 a2).length := hi
  show (attach_VolumeLR a0 a1 a2 i).All _
  unfold attach_VolumeLR
  refine ⟨fun h0 => ?_, fun h0 => ?_⟩
  · have hlt : i < (attach_AttachmentsF a0 a2).length := by simpa using h0
    have hd := drop_getD hlt
    have hw := wrap_succ (i := i) (by omega)
    refine ⟨need_cons (by first | assumption | omega | (intro; omega) | (simp only [decide_eq_true_eq, decide_eq_false_iff_not, Bool.cond_false_right, Bool.cond_true_right, Bool.cond_true_left, Bool.cond_false_left, Bool.and_eq_true, Bool.or_eq_true, Bool.not_eq_true', bytesLim, maxLen, List.length_cons, List.length_nil, List.length_append, byteSize_lit] at *; omega) | (intro; simp only [decide_eq_true_eq, decide_eq_false_iff_not, Bool.cond_false_right, Bool.cond_true_right, Bool.cond_true_left, Bool.cond_false_left, Bool.and_eq_true, Bool.or_eq_true, Bool.not_eq_true', bytesLim, maxLen, List.length_cons, List.length_nil, List.length_append, byteSize_lit] at *; omega)) (need_nil), ?_⟩
    refine ⟨need_cons (by (try refine fun (_ : _ = _) => ?_); have h9 := Attachments_len a0 a2; have h8 := Wanted_len a0 a2; omega) (need_nil), ?_⟩
    refine ⟨fun h1 => ?_, fun h1 => ?_⟩
    · have hF : attach_VolumeLF a0 a1 a2 ((attach_AttachmentsF a0 a2).drop i) = (true, (attach_askF (4 : Int) ((attach_AttachmentsF a0 a2).getD i default))) := by rw [hd]; first | exact (cond_t h1 rfl) | simp only [attach_VolumeLF, h0, h1, cond_true, cond_false]
      unfold attach_VolumeLT at hT
      rw [hF] at hT
      exact hT.1 rfl
    · refine ⟨fun h2 => ?_, fun h2 => ?_⟩
      · have hF : attach_VolumeLF a0 a1 a2 ((attach_AttachmentsF a0 a2).drop i) = (true, (attach_writeF ((attach_AttachmentsF a0 a2).getD i default) (9 : Int) a1)) := by rw [hd]; first | exact (cond_f h1 (cond_t h2 rfl)) | simp only [attach_VolumeLF, h0, h1, h2, cond_true, cond_false]
        unfold attach_VolumeLT at hT
        rw [hF] at hT
        exact hT.1 rfl
      · refine ⟨fun h3 => ?_, fun h3 => ?_⟩
        · have hF : attach_VolumeLF a0 a1 a2 ((attach_AttachmentsF a0 a2).drop i) = (true, (attach_askF (3 : Int) ((attach_AttachmentsF a0 a2).getD i default))) := by rw [hd]; first | exact (cond_f h1 (cond_f h2 (cond_t h3 rfl))) | simp only [attach_VolumeLF, h0, h1, h2, h3, cond_true, cond_false]
          unfold attach_VolumeLT at hT
          rw [hF] at hT
          exact hT.1 rfl
        · have hF : attach_VolumeLF a0 a1 a2 ((attach_AttachmentsF a0 a2).drop i) = attach_VolumeLF a0 a1 a2 ((attach_AttachmentsF a0 a2).drop (i + 1)) := by rw [hd]; first | exact (cond_f h1 (cond_f h2 (cond_f h3 rfl))) | simp only [attach_VolumeLF, h0, h1, h2, h3, cond_true, cond_false]
          refine ⟨⟨(i + 1), by show (i + 1) ≤ (attach_AttachmentsF a0 a2).length; omega⟩, by show (attach_AttachmentsF a0 a2).length - (i + 1) < (attach_AttachmentsF a0 a2).length - i; omega, ?_, ?_⟩
          · show _ = attach_VolumeLS a0 a1 a2 (i + 1)
            unfold attach_VolumeLS
            simp only [hw]
          · show (attach_VolumeLT a0 a1 a2 (i + 1)).All Q
            unfold attach_VolumeLT at hT ⊢
            rw [hF] at hT
            exact hT
  · have hge : ¬ i < (attach_AttachmentsF a0 a2).length := by simpa using h0
    have hd : (attach_AttachmentsF a0 a2).drop i = [] := List.drop_eq_nil_of_le (by omega)
    have hF : attach_VolumeLF a0 a1 a2 ((attach_AttachmentsF a0 a2).drop i) = (false, default) := by rw [hd]; first | exact rfl | simp only [attach_VolumeLF, h0, cond_true, cond_false]
    unfold attach_VolumeLT at hT
    rw [hF] at hT
    exact hT.2 rfl
def attach_VolumeL1F (a0 : List XObj) (a1 : Int) (a2 : ByteArray) : List ByteArray → Bool × XAct
  | [] => (true, default)
  | o1 :: r => cond (api_ObjectF (attach_AttachmentsF a0 a2) o1)
    (attach_VolumeL1F a0 a1 a2 r)
    (cond (!(object_NameF ((object_DefaultF (⟨(5 : Int), (⟨#[]⟩ : ByteArray), (0 : Int), (0 : Int), false, false, (⟨#[]⟩ : ByteArray), (0 : Int), (0 : Int), (0 : Int), false, false, (⟨#[]⟩ : ByteArray), o1, (⟨#[]⟩ : ByteArray), a2, (⟨#[]⟩ : ByteArray), (0 : Int), (0 : Int), (0 : Int)⟩ : XObj)).name)))
      (true, default)
      (false, (attach_writeF (object_DefaultF (⟨(5 : Int), (⟨#[]⟩ : ByteArray), (0 : Int), (0 : Int), false, false, (⟨#[]⟩ : ByteArray), (0 : Int), (0 : Int), (0 : Int), false, false, (⟨#[]⟩ : ByteArray), o1, (⟨#[]⟩ : ByteArray), a2, (⟨#[]⟩ : ByteArray), (0 : Int), (0 : Int), (0 : Int)⟩ : XObj)) (7 : Int) a1)))
def attach_VolumeL1S (a0 : List XObj) (a1 : Int) (a2 : ByteArray) (i1 : Nat) : St :=
  ⟨slots 97 [(1, .int .u64 a1), (2, .str a2), (6, .ptr 0 0), (10, .vec 1), (75, .vec 2), (76, .int .i64 ((attach_WantedF a0 a2).length : Int)), (77, .int .i64 (i1 : Int))], [.cells 42 [.int .u8 0, .int .u8 0, .str (⟨#[]⟩ : ByteArray), .int .u64 0, .int .u64 0, .bool false, .bool false, .str (⟨#[]⟩ : ByteArray), .int .i64 0, .int .i64 0, .int .u8 0, .bool false, .bool false, .str (⟨#[]⟩ : ByteArray), .str (⟨#[]⟩ : ByteArray), .str (⟨#[]⟩ : ByteArray), .str (⟨#[]⟩ : ByteArray), .str (⟨#[]⟩ : ByteArray), .int .u8 0, .int .u64 0, .int .u64 0, .int .u8 0, .str (⟨#[]⟩ : ByteArray), .int .u64 0, .int .i64 0, .str (⟨#[]⟩ : ByteArray), .str (⟨#[]⟩ : ByteArray), .str (⟨#[]⟩ : ByteArray)], .vec false ⟨.obj, attach_AttachmentsF a0 a2⟩, .vec false ⟨.str, attach_WantedF a0 a2⟩]⟩
def attach_VolumeL1R (a0 : List XObj) (a1 : Int) (a2 : ByteArray) (i1 : Nat) : RT :=
  (.ask (decide ((i1 : Int) < ((attach_WantedF a0 a2).length : Int)))
    (.need [0 ≤ (i1 : Int) ∧ (i1 : Int) < ((attach_WantedF a0 a2).length : Int)]
      (.need [(attach_AttachmentsF a0 a2).length < 4611686018427387904]
        (.ask (api_ObjectF (attach_AttachmentsF a0 a2) ((attach_WantedF a0 a2).getD i1 default))
          (.leaf .normal ⟨slots 97 [(1, .int .u64 a1), (2, .str a2), (6, .ptr 0 0), (10, .vec 1), (75, .vec 2), (76, .int .i64 ((attach_WantedF a0 a2).length : Int)), (77, .int .i64 (IntKind.i64.wrap ((i1 : Int) + (1 : Int))))], [.cells 42 [.int .u8 0, .int .u8 0, .str (⟨#[]⟩ : ByteArray), .int .u64 0, .int .u64 0, .bool false, .bool false, .str (⟨#[]⟩ : ByteArray), .int .i64 0, .int .i64 0, .int .u8 0, .bool false, .bool false, .str (⟨#[]⟩ : ByteArray), .str (⟨#[]⟩ : ByteArray), .str (⟨#[]⟩ : ByteArray), .str (⟨#[]⟩ : ByteArray), .str (⟨#[]⟩ : ByteArray), .int .u8 0, .int .u64 0, .int .u64 0, .int .u8 0, .str (⟨#[]⟩ : ByteArray), .int .u64 0, .int .i64 0, .str (⟨#[]⟩ : ByteArray), .str (⟨#[]⟩ : ByteArray), .str (⟨#[]⟩ : ByteArray)], .vec false ⟨.obj, attach_AttachmentsF a0 a2⟩, .vec false ⟨.str, attach_WantedF a0 a2⟩]⟩ [])
          (.need [(⟨(5 : Int), (⟨#[]⟩ : ByteArray), (0 : Int), (0 : Int), false, false, (⟨#[]⟩ : ByteArray), (0 : Int), (0 : Int), (0 : Int), false, false, (⟨#[]⟩ : ByteArray), ((attach_WantedF a0 a2).getD i1 default), (⟨#[]⟩ : ByteArray), a2, (⟨#[]⟩ : ByteArray), (0 : Int), (0 : Int), (0 : Int)⟩ : XObj).Fine]
            (.need [((object_DefaultF (⟨(5 : Int), (⟨#[]⟩ : ByteArray), (0 : Int), (0 : Int), false, false, (⟨#[]⟩ : ByteArray), (0 : Int), (0 : Int), (0 : Int), false, false, (⟨#[]⟩ : ByteArray), ((attach_WantedF a0 a2).getD i1 default), (⟨#[]⟩ : ByteArray), a2, (⟨#[]⟩ : ByteArray), (0 : Int), (0 : Int), (0 : Int)⟩ : XObj)).name).size < 4611686018427387904]
              (.ask (!(object_NameF ((object_DefaultF (⟨(5 : Int), (⟨#[]⟩ : ByteArray), (0 : Int), (0 : Int), false, false, (⟨#[]⟩ : ByteArray), (0 : Int), (0 : Int), (0 : Int), false, false, (⟨#[]⟩ : ByteArray), ((attach_WantedF a0 a2).getD i1 default), (⟨#[]⟩ : ByteArray), a2, (⟨#[]⟩ : ByteArray), (0 : Int), (0 : Int), (0 : Int)⟩ : XObj)).name)))
                (.leaf (.exit 3) ⟨slots 97 [(6, .ptr 0 0)], [.cells 42 [.int .u8 0, .int .u8 0, .str (⟨#[]⟩ : ByteArray), .int .u64 0, .int .u64 0, .bool false, .bool false, .str (⟨#[]⟩ : ByteArray), .int .i64 0, .int .i64 0, .int .u8 0, .bool false, .bool false, .str (⟨#[]⟩ : ByteArray), .str (⟨#[]⟩ : ByteArray), .str (⟨#[]⟩ : ByteArray), .str (⟨#[]⟩ : ByteArray), .str (⟨#[]⟩ : ByteArray), .int .u8 0, .int .u64 0, .int .u64 0, .int .u8 0, .str (⟨#[]⟩ : ByteArray), .int .u64 0, .int .i64 0, .str (⟨#[]⟩ : ByteArray), .str (⟨#[]⟩ : ByteArray), .str (⟨#[]⟩ : ByteArray)]]⟩ [])
                (.leaf .ret ⟨slots 97 [(6, .ptr 0 0)], [.cells 42 (ac (attach_writeF (object_DefaultF (⟨(5 : Int), (⟨#[]⟩ : ByteArray), (0 : Int), (0 : Int), false, false, (⟨#[]⟩ : ByteArray), (0 : Int), (0 : Int), (0 : Int), false, false, (⟨#[]⟩ : ByteArray), ((attach_WantedF a0 a2).getD i1 default), (⟨#[]⟩ : ByteArray), a2, (⟨#[]⟩ : ByteArray), (0 : Int), (0 : Int), (0 : Int)⟩ : XObj)) (7 : Int) a1))]⟩ [])))))))
    (.leaf (.exit 3) ⟨slots 97 [(6, .ptr 0 0)], [.cells 42 [.int .u8 0, .int .u8 0, .str (⟨#[]⟩ : ByteArray), .int .u64 0, .int .u64 0, .bool false, .bool false, .str (⟨#[]⟩ : ByteArray), .int .i64 0, .int .i64 0, .int .u8 0, .bool false, .bool false, .str (⟨#[]⟩ : ByteArray), .str (⟨#[]⟩ : ByteArray), .str (⟨#[]⟩ : ByteArray), .str (⟨#[]⟩ : ByteArray), .str (⟨#[]⟩ : ByteArray), .int .u8 0, .int .u64 0, .int .u64 0, .int .u8 0, .str (⟨#[]⟩ : ByteArray), .int .u64 0, .int .i64 0, .str (⟨#[]⟩ : ByteArray), .str (⟨#[]⟩ : ByteArray), .str (⟨#[]⟩ : ByteArray)]]⟩ []))
def attach_VolumeL1T (a0 : List XObj) (a1 : Int) (a2 : ByteArray) (i1 : Nat) : Tree :=
  .ask ((attach_VolumeL1F a0 a1 a2 ((attach_WantedF a0 a2).drop i1)).1) (.leaf (.exit 3) ⟨slots 97 [(6, .ptr 0 0)], [.cells 42 [.int .u8 0, .int .u8 0, .str (⟨#[]⟩ : ByteArray), .int .u64 0, .int .u64 0, .bool false, .bool false, .str (⟨#[]⟩ : ByteArray), .int .i64 0, .int .i64 0, .int .u8 0, .bool false, .bool false, .str (⟨#[]⟩ : ByteArray), .str (⟨#[]⟩ : ByteArray), .str (⟨#[]⟩ : ByteArray), .str (⟨#[]⟩ : ByteArray), .str (⟨#[]⟩ : ByteArray), .int .u8 0, .int .u64 0, .int .u64 0, .int .u8 0, .str (⟨#[]⟩ : ByteArray), .int .u64 0, .int .i64 0, .str (⟨#[]⟩ : ByteArray), .str (⟨#[]⟩ : ByteArray), .str (⟨#[]⟩ : ByteArray)]]⟩) (.leaf .ret ⟨slots 97 [(6, .ptr 0 0)], [.cells 42 (ac ((attach_VolumeL1F a0 a1 a2 ((attach_WantedF a0 a2).drop i1)).2))]⟩)
theorem attach_VolumeL1_loop (a0 : List XObj) (a1 : Int) (a2 : ByteArray) (hp0 : a0.length ≤ 64) (hp1 : ∀ o ∈ a0, o.Fine) (hp2 : a2.size ≤ 140737488351232) (hlen : (attach_WantedF a0 a2).length < 4611686018427387904) (z : { z : Nat // z ≤ (attach_WantedF a0 a2).length }) (Q : Exit → St → Prop) (h : (attach_VolumeL1T a0 a1 a2 z.1).All Q) : Tr Try.prog 0 (.loop (loopAt Try.f19 1)) (attach_VolumeL1S a0 a1 a2 z.1) Q := by
  refine Tr_loopT (kok _ _ _ _ _ _) (E := E_attach_Volume) (ι := { z : Nat // z ≤ (attach_WantedF a0 a2).length }) 60 3 (fun _ => noLoops) (fun z => attach_VolumeL1S a0 a1 a2 z.1) (fun z => attach_VolumeL1T a0 a1 a2 z.1) (fun z => attach_VolumeL1R a0 a1 a2 z.1) (fun z => (attach_WantedF a0 a2).length - z.1) (fun _ => LoopsOk.none) (fun z => by obtain ⟨i1, hi⟩ := z; kernel_rfl) (fun z => by obtain ⟨i1, hi⟩ := z; kernel_rfl) (fun z => by obtain ⟨i1, hi⟩ := z; kernel_rfl) ?_ z Q h
  rintro ⟨i1, hi⟩ Q hT
  replace hT : (attach_VolumeL1T a0 a1 a2 i1).All Q := hT
  replace hi : i1 ≤ (attach_WantedF a0 a2).length := hi
  show (attach_VolumeL1R a0 a1 a2 i1).All _
  unfold attach_VolumeL1R
  refine ⟨fun h0 => ?_, fun h0 => ?_⟩
  · have hlt : i1 < (attach_WantedF a0 a2).length := by simpa using h0
    have hd := drop_getD hlt
    have hw := wrap_succ (i := i1) (by omega)
    refine ⟨need_cons (by first | assumption | omega | (intro; omega) | (simp only [decide_eq_true_eq, decide_eq_false_iff_not, Bool.cond_false_right, Bool.cond_true_right, Bool.cond_true_left, Bool.cond_false_left, Bool.and_eq_true, Bool.or_eq_true, Bool.not_eq_true', bytesLim, maxLen, List.length_cons, List.length_nil, List.length_append, byteSize_lit] at *; omega) | (intro; simp only [decide_eq_true_eq, decide_eq_false_iff_not, Bool.cond_false_right, Bool.cond_true_right, Bool.cond_true_left, Bool.cond_false_left, Bool.and_eq_true, Bool.or_eq_true, Bool.not_eq_true', bytesLim, maxLen, List.length_cons, List.length_nil, List.length_append, byteSize_lit] at *; omega)) (need_nil), ?_⟩
    refine ⟨need_cons (by (try refine fun (_ : _ = _) => ?_); have h9 := Attachments_len a0 a2; have h8 := Wanted_len a0 a2; omega) (need_nil), ?_⟩
    refine ⟨fun h1 => ?_, fun h1 => ?_⟩
    · have hF : attach_VolumeL1F a0 a1 a2 ((attach_WantedF a0 a2).drop i1) = attach_VolumeL1F a0 a1 a2 ((attach_WantedF a0 a2).drop (i1 + 1)) := by rw [hd]; first | exact (cond_t h1 rfl) | simp only [attach_VolumeL1F, h0, h1, cond_true, cond_false]
      refine ⟨⟨(i1 + 1), by show (i1 + 1) ≤ (attach_WantedF a0 a2).length; omega⟩, by show (attach_WantedF a0 a2).length - (i1 + 1) < (attach_WantedF a0 a2).length - i1; omega, ?_, ?_⟩
      · show _ = attach_VolumeL1S a0 a1 a2 (i1 + 1)
        unfold attach_VolumeL1S
        simp only [hw]
      · show (attach_VolumeL1T a0 a1 a2 (i1 + 1)).All Q
        unfold attach_VolumeL1T at hT ⊢
        rw [hF] at hT
        exact hT
    · refine ⟨need_cons (by (try refine fun (_ : _ = _) => ?_); exact ⟨Nat.zero_le _, Int.le_refl 0, (by decide : (0 : Int) ≤ 18446744073709551615), Nat.zero_le _, Nat.zero_le _, Wanted_at a0 a2 hp1 _, Nat.zero_le _, hp2, Nat.zero_le _⟩) (need_nil), ?_⟩
      refine ⟨need_cons (by (try refine fun (_ : _ = _) => ?_); refine default_name ?_; exact ⟨Nat.zero_le _, Int.le_refl 0, (by decide : (0 : Int) ≤ 18446744073709551615), Nat.zero_le _, Nat.zero_le _, Wanted_at a0 a2 hp1 _, Nat.zero_le _, hp2, Nat.zero_le _⟩) (need_nil), ?_⟩
      refine ⟨fun h2 => ?_, fun h2 => ?_⟩
      · have hF : attach_VolumeL1F a0 a1 a2 ((attach_WantedF a0 a2).drop i1) = (true, default) := by rw [hd]; first | exact (cond_f h1 (cond_t h2 rfl)) | simp only [attach_VolumeL1F, h0, h1, h2, cond_true, cond_false]
        unfold attach_VolumeL1T at hT
        rw [hF] at hT
        exact hT.1 rfl
      · have hF : attach_VolumeL1F a0 a1 a2 ((attach_WantedF a0 a2).drop i1) = (false, (attach_writeF (object_DefaultF (⟨(5 : Int), (⟨#[]⟩ : ByteArray), (0 : Int), (0 : Int), false, false, (⟨#[]⟩ : ByteArray), (0 : Int), (0 : Int), (0 : Int), false, false, (⟨#[]⟩ : ByteArray), ((attach_WantedF a0 a2).getD i1 default), (⟨#[]⟩ : ByteArray), a2, (⟨#[]⟩ : ByteArray), (0 : Int), (0 : Int), (0 : Int)⟩ : XObj)) (7 : Int) a1)) := by rw [hd]; first | exact (cond_f h1 (cond_f h2 rfl)) | simp only [attach_VolumeL1F, h0, h1, h2, cond_true, cond_false]
        unfold attach_VolumeL1T at hT
        rw [hF] at hT
        exact hT.2 rfl
  · have hge : ¬ i1 < (attach_WantedF a0 a2).length := by simpa using h0
    have hd : (attach_WantedF a0 a2).drop i1 = [] := List.drop_eq_nil_of_le (by omega)
    have hF : attach_VolumeL1F a0 a1 a2 ((attach_WantedF a0 a2).drop i1) = (true, default) := by rw [hd]; first | exact rfl | simp only [attach_VolumeL1F, h0, cond_true, cond_false]
    unfold attach_VolumeL1T at hT
    rw [hF] at hT
    exact hT.1 rfl
def attach_VolumeF (a0 : List XObj) (a1 : Int) (a2 : ByteArray) : XAct :=
  cond (!((attach_getF a0 (4 : Int) a2).2))
    (default : XAct)
    (cond ((attach_VolumeLF a0 a1 a2 (attach_AttachmentsF a0 a2)).1)
      ((attach_VolumeLF a0 a1 a2 (attach_AttachmentsF a0 a2)).2)
      (cond (cond (!((((attach_getF a0 (4 : Int) a2).1).phase) == (3 : Int))) true (cond ((((attach_getF a0 (4 : Int) a2).1).mode) == (1 : Int)) (decide (((attach_AttachmentsF a0 a2).length : Int) > (0 : Int))) false))
        (default : XAct)
        (cond ((attach_VolumeL1F a0 a1 a2 (attach_WantedF a0 a2)).1)
          (default : XAct)
          ((attach_VolumeL1F a0 a1 a2 (attach_WantedF a0 a2)).2))))
def attach_VolumeR (a0 : List XObj) (a1 : Int) (a2 : ByteArray) : RT :=
  (.need [a0.length < 4611686018427387904]
    (.ask (!((attach_getF a0 (4 : Int) a2).2))
      (.leaf .ret ⟨slots 97 [(6, .ptr 0 0)], [.cells 42 [.int .u8 0, .int .u8 0, .str (⟨#[]⟩ : ByteArray), .int .u64 0, .int .u64 0, .bool false, .bool false, .str (⟨#[]⟩ : ByteArray), .int .i64 0, .int .i64 0, .int .u8 0, .bool false, .bool false, .str (⟨#[]⟩ : ByteArray), .str (⟨#[]⟩ : ByteArray), .str (⟨#[]⟩ : ByteArray), .str (⟨#[]⟩ : ByteArray), .str (⟨#[]⟩ : ByteArray), .int .u8 0, .int .u64 0, .int .u64 0, .int .u8 0, .str (⟨#[]⟩ : ByteArray), .int .u64 0, .int .i64 0, .str (⟨#[]⟩ : ByteArray), .str (⟨#[]⟩ : ByteArray), .str (⟨#[]⟩ : ByteArray)]]⟩ [])
      (.need [a0.length ≤ 64]
        (.need [a0.length ≤ 64]
          (.ask ((attach_VolumeLF a0 a1 a2 (attach_AttachmentsF a0 a2)).1)
            (.leaf .ret ⟨slots 97 [(6, .ptr 0 0)], [.cells 42 (ac ((attach_VolumeLF a0 a1 a2 (attach_AttachmentsF a0 a2)).2))]⟩ [])
            (.ask (cond (!((((attach_getF a0 (4 : Int) a2).1).phase) == (3 : Int))) true (cond ((((attach_getF a0 (4 : Int) a2).1).mode) == (1 : Int)) (decide (((attach_AttachmentsF a0 a2).length : Int) > (0 : Int))) false))
              (.leaf .ret ⟨slots 97 [(6, .ptr 0 0)], [.cells 42 [.int .u8 0, .int .u8 0, .str (⟨#[]⟩ : ByteArray), .int .u64 0, .int .u64 0, .bool false, .bool false, .str (⟨#[]⟩ : ByteArray), .int .i64 0, .int .i64 0, .int .u8 0, .bool false, .bool false, .str (⟨#[]⟩ : ByteArray), .str (⟨#[]⟩ : ByteArray), .str (⟨#[]⟩ : ByteArray), .str (⟨#[]⟩ : ByteArray), .str (⟨#[]⟩ : ByteArray), .int .u8 0, .int .u64 0, .int .u64 0, .int .u8 0, .str (⟨#[]⟩ : ByteArray), .int .u64 0, .int .i64 0, .str (⟨#[]⟩ : ByteArray), .str (⟨#[]⟩ : ByteArray), .str (⟨#[]⟩ : ByteArray)]]⟩ [])
              (.ask ((attach_VolumeL1F a0 a1 a2 (attach_WantedF a0 a2)).1)
                (.leaf .ret ⟨slots 97 [(6, .ptr 0 0)], [.cells 42 [.int .u8 0, .int .u8 0, .str (⟨#[]⟩ : ByteArray), .int .u64 0, .int .u64 0, .bool false, .bool false, .str (⟨#[]⟩ : ByteArray), .int .i64 0, .int .i64 0, .int .u8 0, .bool false, .bool false, .str (⟨#[]⟩ : ByteArray), .str (⟨#[]⟩ : ByteArray), .str (⟨#[]⟩ : ByteArray), .str (⟨#[]⟩ : ByteArray), .str (⟨#[]⟩ : ByteArray), .int .u8 0, .int .u64 0, .int .u64 0, .int .u8 0, .str (⟨#[]⟩ : ByteArray), .int .u64 0, .int .i64 0, .str (⟨#[]⟩ : ByteArray), .str (⟨#[]⟩ : ByteArray), .str (⟨#[]⟩ : ByteArray)]]⟩ [])
                (.leaf .ret ⟨slots 97 [(6, .ptr 0 0)], [.cells 42 (ac ((attach_VolumeL1F a0 a1 a2 (attach_WantedF a0 a2)).2))]⟩ []))))))))
theorem attach_VolumeF_tr (a0 : List XObj) (a1 : Int) (a2 : ByteArray) (hp0 : a0.length ≤ 64) (hp1 : ∀ o ∈ a0, o.Fine) (hp2 : a2.size ≤ 140737488351232) : Tr Try.prog 0 (bodyOf Try.f19) (fnBegins Try.f19 [.coll ⟨.obj, a0⟩, .int .u64 a1, .str a2] []) (fnEnds Try.prog Try.f19 (.agg (ac (attach_VolumeF a0 a1 a2))) []) := by
  refine Tr_tree (kok _ _ _ _ _ _) (E := E_attach_Volume) (L := (loopsOf [(0, attach_VolumeLS a0 a1 a2 0, [], attach_VolumeLT a0 a1 a2 0), (3, attach_VolumeL1S a0 a1 a2 0, [0, 3, 2], attach_VolumeL1T a0 a1 a2 0)])) 60 9999 (LoopsOk.two (g := loopAt Try.f19 0) (g2 := loopAt Try.f19 1) (b := 0) (b2 := 3) (by kernel_rfl) (by kernel_rfl) (by kernel_rfl) (by kernel_rfl) (by kernel_rfl) (fun Q h => attach_VolumeL_loop a0 a1 a2 hp0 hp1 hp2 (by have h9 := Attachments_len a0 a2; have h8 := Wanted_len a0 a2; omega) ⟨0, by first | exact Nat.zero_le _ | (show 0 ≤ (attach_AttachmentsF a0 a2).length; omega) | (show 0 ≤ (attach_AttachmentsF a0 a2).length; exact ⟨Nat.zero_le _, by assumption⟩) | (show 0 ≤ (attach_AttachmentsF a0 a2).length; simp)⟩ Q h) (by kernel_rfl) (by kernel_rfl) (by kernel_rfl) (fun Q h => attach_VolumeL1_loop a0 a1 a2 hp0 hp1 hp2 (by have h9 := Attachments_len a0 a2; have h8 := Wanted_len a0 a2; omega) ⟨0, by first | exact Nat.zero_le _ | (show 0 ≤ (attach_WantedF a0 a2).length; omega) | (show 0 ≤ (attach_WantedF a0 a2).length; exact ⟨Nat.zero_le _, by assumption⟩) | (show 0 ≤ (attach_WantedF a0 a2).length; simp)⟩ Q h)) (attach_VolumeR a0 a1 a2) (by kernel_rfl) (by kernel_rfl) (by kernel_rfl) ?_
  unfold attach_VolumeR
  refine ⟨need_cons (by (try refine fun (_ : _ = _) => ?_); have h9 := Attachments_len a0 a2; have h8 := Wanted_len a0 a2; omega) (need_nil), ?_⟩
  refine ⟨fun h0 => ?_, fun h0 => ?_⟩
  · have hF : attach_VolumeF a0 a1 a2 = (default : XAct) := by first | exact (cond_t h0 rfl) | simp only [attach_VolumeF, h0, cond_true, cond_false]
    exact ⟨trivial, .inl (by first | (rw [hF]; kernel_rfl) | kernel_rfl), by first | (rw [hF]; kernel_rfl) | kernel_rfl⟩
  · refine ⟨need_cons (by omega) (need_nil), ?_⟩
    refine ⟨need_cons (by omega) (need_nil), ?_⟩
    refine ⟨fun h1 => ?_, fun h1 => ?_⟩
    · have hF : attach_VolumeF a0 a1 a2 = ((attach_VolumeLF a0 a1 a2 (attach_AttachmentsF a0 a2)).2) := by first | exact (cond_f h0 (cond_t h1 rfl)) | simp only [attach_VolumeF, h0, h1, cond_true, cond_false]
      exact ⟨trivial, .inl (by first | (rw [hF]; kernel_rfl) | kernel_rfl), by first | (rw [hF]; kernel_rfl) | kernel_rfl⟩
    · refine ⟨fun h2 => ?_, fun h2 => ?_⟩
      · have hF : attach_VolumeF a0 a1 a2 = (default : XAct) := by first | exact (cond_f h0 (cond_f h1 (cond_t h2 rfl))) | simp only [attach_VolumeF, h0, h1, h2, cond_true, cond_false]
        exact ⟨trivial, .inl (by first | (rw [hF]; kernel_rfl) | kernel_rfl), by first | (rw [hF]; kernel_rfl) | kernel_rfl⟩
      · refine ⟨fun h3 => ?_, fun h3 => ?_⟩
        · have hF : attach_VolumeF a0 a1 a2 = (default : XAct) := by first | exact (cond_f h0 (cond_f h1 (cond_f h2 (cond_t h3 rfl)))) | simp only [attach_VolumeF, h0, h1, h2, h3, cond_true, cond_false]
          exact ⟨trivial, .inl (by first | (rw [hF]; kernel_rfl) | kernel_rfl), by first | (rw [hF]; kernel_rfl) | kernel_rfl⟩
        · have hF : attach_VolumeF a0 a1 a2 = ((attach_VolumeL1F a0 a1 a2 (attach_WantedF a0 a2)).2) := by first | exact (cond_f h0 (cond_f h1 (cond_f h2 (cond_f h3 rfl)))) | simp only [attach_VolumeF, h0, h1, h2, h3, cond_true, cond_false]
          exact ⟨trivial, .inl (by first | (rw [hF]; kernel_rfl) | kernel_rfl), by first | (rw [hF]; kernel_rfl) | kernel_rfl⟩
noncomputable def attach_Volume_fact : Fact Try.prog := factOf 19 Try.f19 (by kernel_rfl) rfl (by kernel_rfl) [.c (.coll .obj), .c (.int .u64), .c (.str)] [] true (fun t u => .agg (ac (attach_VolumeF t.1 t.2.1 t.2.2.1))) (fun t u => []) (fun t u => [t.1.length ≤ 64, ∀ o ∈ t.1, o.Fine, t.2.2.1.size ≤ 140737488351232])
  (fun _ _ _ => rfl) (fun t u => by kernel_rfl) (fun t u => by kernel_rfl) (fun t u h => attach_VolumeF_tr t.1 t.2.1 t.2.2.1 (h _ List.mem_cons_self) (h _ (List.mem_cons_of_mem _ List.mem_cons_self)) (h _ (List.mem_cons_of_mem _ (List.mem_cons_of_mem _ List.mem_cons_self))))
end Go.Proofs.Ytbcnehpndoghcaa
