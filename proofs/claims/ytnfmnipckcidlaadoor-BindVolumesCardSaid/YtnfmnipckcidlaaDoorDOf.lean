/- Bind: each once. -/
import Derived.Test.YtnfmnipckcidlaaDoorDFmt
set_option linter.unusedVariables false
set_option linter.unusedSimpArgs false
set_option maxRecDepth 100000
namespace Go.Proofs.YtnfmnipckcidlaaDoor
open Go Go.Eng
def ckL : List (Nat × Kind) := [(2, .int .i64), (3, .int .i64), (4, .bool), (5, .int .u8), (6, .int .u8), (9, .str), (10, .str), (11, .str), (12, .int .u64), (21, .int .i32), (23, .int .u64), (26, .int .u8), (27, .int .u8), (28, .int .u8), (29, .int .u8), (31, .obj), (32, .int .u8), (34, .call), (49, .key), (50, .int .i64), (89, .strs), (93, .int .u32), (96, .int .u64), (120, .int .u8), (121, .int .u8), (123, .int .i32), (124, .int .i32)]
def ckf : TypeId → Option Kind := fun t => ckL.lookup t
noncomputable def E_object_Key : Env := envOf (P := Tryd.prog) [] [] [] ckf
def object_KeyF (a0 : XObj) : XKey :=
  (⟨a0.kind, a0.name⟩ : XKey)
def object_KeyR (a0 : XObj) : RT :=
  (.leaf .ret ⟨slots 8 [(2, .ptr 0 0)], [.cells 49 [.int .u8 a0.kind, .str a0.name]]⟩ [1])
theorem object_KeyF_tr (a0 : XObj)  : Tr Tryd.prog 0 (bodyOf Tryd.f64) (fnBegins Tryd.f64 [.agg (oc a0)] []) (fnEnds Tryd.prog Tryd.f64 (.agg [.int .u8 ((object_KeyF a0).kind), .str ((object_KeyF a0).name)]) []) := by
  refine Tr_tree (kok _ _ _ _ _ _) (E := E_object_Key) (L := noLoops) 60 9999 LoopsOk.none (object_KeyR a0) (by kernel_rfl) (by kernel_rfl) (by kernel_rfl) ?_
  unfold object_KeyR
  exact ⟨trivial, .inl (by kernel_rfl), by kernel_rfl⟩
noncomputable def object_Key_fact : Fact Tryd.prog := factOf 64 Tryd.f64 (by kernel_rfl) rfl (by kernel_rfl) [.st .obj] [] true (fun t u => .agg [.int .u8 ((object_KeyF t.1).kind), .str ((object_KeyF t.1).name)]) (fun t u => []) (fun t u => [])
  (fun _ _ _ => rfl) (fun t u => by kernel_rfl) (fun t u => by kernel_rfl) (fun t u h => object_KeyF_tr t.1 )
noncomputable def E_bind_of : Env := envOf (P := Tryd.prog) [object_Key_fact] [] [] ckf
def bind_ofLF  : List XObj → List (XKey × Bool) → List XObj → List XObj
  | [], v3, v5 => v5
  | o :: r, v3, v5 => cond (!((mget (k := .key) (v := .bool) v3 (object_KeyF o)).getD default))
    (bind_ofLF r (mset (k := .key) (v := .bool) v3 (object_KeyF o) true) (v5 ++ [o]))
    (bind_ofLF r v3 v5)
def bind_ofLS (a0 : List XObj) (i : Nat) (v3 : List (XKey × Bool)) (v5 : List XObj) : St :=
  ⟨slots 31 [(2, .ptr 0 0), (3, .ptr 1 0), (4, .map 2), (9, .coll ⟨.obj, a0⟩), (10, .int .i64 (a0.length : Int)), (11, .int .i64 (i : Int))], [.cells 61 [.vec 3], .cells 61 [.vec 4], .map ⟨.key, .bool, v3⟩, .vec true ⟨.obj, []⟩, .vec true ⟨.obj, v5⟩]⟩
def bind_ofLR (a0 : List XObj) (i : Nat) (v3 : List (XKey × Bool)) (v5 : List XObj) : RT :=
  (.ask (decide ((i : Int) < (a0.length : Int)))
    (.need [0 ≤ (i : Int) ∧ (i : Int) < (a0.length : Int)]
      (.ask (!((mget (k := .key) (v := .bool) v3 (object_KeyF (a0.getD i default))).getD default))
        (.need [(v5.length + [(a0.getD i default)].length) * 192 ≤ bytesLim ∧ v5.length + [(a0.getD i default)].length ≤ maxLen]
          (.leaf .normal ⟨slots 31 [(2, .ptr 0 0), (3, .ptr 1 0), (4, .map 2), (9, .coll ⟨.obj, a0⟩), (10, .int .i64 (a0.length : Int)), (11, .int .i64 (IntKind.i64.wrap ((i : Int) + (1 : Int))))], [.cells 61 [.vec 3], .cells 61 [.vec 4], .map ⟨.key, .bool, (mset (k := .key) (v := .bool) v3 (object_KeyF (a0.getD i default)) true)⟩, .vec true ⟨.obj, []⟩, .vec true ⟨.obj, (v5 ++ [(a0.getD i default)])⟩]⟩ [0, 1, 2, 3, 8]))
        (.leaf .normal ⟨slots 31 [(2, .ptr 0 0), (3, .ptr 1 0), (4, .map 2), (9, .coll ⟨.obj, a0⟩), (10, .int .i64 (a0.length : Int)), (11, .int .i64 (IntKind.i64.wrap ((i : Int) + (1 : Int))))], [.cells 61 [.vec 3], .cells 61 [.vec 4], .map ⟨.key, .bool, v3⟩, .vec true ⟨.obj, []⟩, .vec true ⟨.obj, v5⟩]⟩ [])))
    (.leaf (.exit 0) ⟨slots 31 [(2, .ptr 0 0), (3, .ptr 1 0)], [.cells 61 [.vec 2], .cells 61 [.vec 3], .vec true ⟨.obj, []⟩, .vec true ⟨.obj, v5⟩]⟩ [0, 1, 3, 4]))
def bind_ofLT (a0 : List XObj) (i : Nat) (v3 : List (XKey × Bool)) (v5 : List XObj) : Tree :=
  .leaf (.exit 0) ⟨slots 31 [(2, .ptr 0 0), (3, .ptr 1 0)], [.cells 61 [.vec 2], .cells 61 [.vec 3], .vec true ⟨.obj, []⟩, .vec true ⟨.obj, bind_ofLF (a0.drop i) v3 v5⟩]⟩
theorem bind_ofL_loop (a0 : List XObj) (hp0 : a0.length ≤ 64) (hlen : a0.length < 4611686018427387904) (z : { z : Nat × (List (XKey × Bool)) × List XObj // z.1 ≤ a0.length ∧ z.2.2.length ≤ z.1 }) (Q : Exit → St → Prop) (h : (bind_ofLT a0 z.1.1 z.1.2.1 z.1.2.2).All Q) : Tr Tryd.prog 0 (.loop (loopAt Tryd.f29 0)) (bind_ofLS a0 z.1.1 z.1.2.1 z.1.2.2) Q := by
  refine Tr_loopT (kok _ _ _ _ _ _) (E := E_bind_of) (ι := { z : Nat × (List (XKey × Bool)) × List XObj // z.1 ≤ a0.length ∧ z.2.2.length ≤ z.1 }) 60 0 (fun _ => noLoops) (fun z => bind_ofLS a0 z.1.1 z.1.2.1 z.1.2.2) (fun z => bind_ofLT a0 z.1.1 z.1.2.1 z.1.2.2) (fun z => bind_ofLR a0 z.1.1 z.1.2.1 z.1.2.2) (fun z => a0.length - z.1.1) (fun _ => LoopsOk.none) (fun z => by obtain ⟨⟨i, v3, v5⟩, hi⟩ := z; kernel_rfl) (fun z => by obtain ⟨⟨i, v3, v5⟩, hi⟩ := z; kernel_rfl) (fun z => by obtain ⟨⟨i, v3, v5⟩, hi⟩ := z; kernel_rfl) ?_ z Q h
  rintro ⟨⟨i, v3, v5⟩, hi⟩ Q hT
  replace hT : (bind_ofLT a0 i v3 v5).All Q := hT
  replace hi : i ≤ a0.length ∧ v5.length ≤ i := hi
  show (bind_ofLR a0 i v3 v5).All _
  unfold bind_ofLR
  refine ⟨fun h0 => ?_, fun h0 => ?_⟩
  · have hlt : i < a0.length := by simpa using h0
    have hd := drop_getD hlt
    have hw := wrap_succ (i := i) (by omega)
    refine ⟨need_cons (by first | assumption | omega | (intro; omega) | (simp only [decide_eq_true_eq, decide_eq_false_iff_not, Bool.cond_false_right, Bool.cond_true_right, Bool.cond_true_left, Bool.cond_false_left, Bool.and_eq_true, Bool.or_eq_true, Bool.not_eq_true', bytesLim, maxLen, List.length_cons, List.length_nil, List.length_append, byteSize_lit] at *; omega) | (intro; simp only [decide_eq_true_eq, decide_eq_false_iff_not, Bool.cond_false_right, Bool.cond_true_right, Bool.cond_true_left, Bool.cond_false_left, Bool.and_eq_true, Bool.or_eq_true, Bool.not_eq_true', bytesLim, maxLen, List.length_cons, List.length_nil, List.length_append, byteSize_lit] at *; omega)) (need_nil), ?_⟩
    refine ⟨fun h1 => ?_, fun h1 => ?_⟩
    · refine ⟨need_cons (by first | assumption | omega | (intro; omega) | (simp only [decide_eq_true_eq, decide_eq_false_iff_not, Bool.cond_false_right, Bool.cond_true_right, Bool.cond_true_left, Bool.cond_false_left, Bool.and_eq_true, Bool.or_eq_true, Bool.not_eq_true', bytesLim, maxLen, List.length_cons, List.length_nil, List.length_append, byteSize_lit] at *; omega) | (intro; simp only [decide_eq_true_eq, decide_eq_false_iff_not, Bool.cond_false_right, Bool.cond_true_right, Bool.cond_true_left, Bool.cond_false_left, Bool.and_eq_true, Bool.or_eq_true, Bool.not_eq_true', bytesLim, maxLen, List.length_cons, List.length_nil, List.length_append, byteSize_lit] at *; omega)) (need_nil), ?_⟩
      have hF : bind_ofLF (a0.drop i) v3 v5 = bind_ofLF (a0.drop (i + 1)) (mset (k := .key) (v := .bool) v3 (object_KeyF (a0.getD i default)) true) (v5 ++ [(a0.getD i default)]) := by rw [hd]; first | exact (cond_t h1 rfl) | simp only [bind_ofLF, h0, h1, cond_true, cond_false]
      refine ⟨⟨((i + 1), (mset (k := .key) (v := .bool) v3 (object_KeyF (a0.getD i default)) true), (v5 ++ [(a0.getD i default)])), by (first | dsimp only | skip); constructor <;> (try simp only [List.length_append, List.length_cons, List.length_nil]) <;> omega⟩, by show a0.length - (i + 1) < a0.length - i; omega, ?_, ?_⟩
      · show _ = bind_ofLS a0 (i + 1) (mset (k := .key) (v := .bool) v3 (object_KeyF (a0.getD i default)) true) (v5 ++ [(a0.getD i default)])
        unfold bind_ofLS
        simp only [hw]
      · show (bind_ofLT a0 (i + 1) (mset (k := .key) (v := .bool) v3 (object_KeyF (a0.getD i default)) true) (v5 ++ [(a0.getD i default)])).All Q
        unfold bind_ofLT at hT ⊢
        rw [hF] at hT
        exact hT
    · have hF : bind_ofLF (a0.drop i) v3 v5 = bind_ofLF (a0.drop (i + 1)) v3 v5 := by rw [hd]; first | exact (cond_f h1 rfl) | simp only [bind_ofLF, h0, h1, cond_true, cond_false]
      refine ⟨⟨((i + 1), v3, v5), by (first | dsimp only | skip); constructor <;> (try simp only [List.length_append, List.length_cons, List.length_nil]) <;> omega⟩, by show a0.length - (i + 1) < a0.length - i; omega, ?_, ?_⟩
      · show _ = bind_ofLS a0 (i + 1) v3 v5
        unfold bind_ofLS
        simp only [hw]
      · show (bind_ofLT a0 (i + 1) v3 v5).All Q
        unfold bind_ofLT at hT ⊢
        rw [hF] at hT
        exact hT
  · have hge : ¬ i < a0.length := by simpa using h0
    have hd : a0.drop i = [] := List.drop_eq_nil_of_le (by omega)
    have hF : bind_ofLF (a0.drop i) v3 v5 = v5 := by rw [hd]; first | exact rfl | simp only [bind_ofLF, h0, cond_true, cond_false]
    unfold bind_ofLT at hT
    rw [hF] at hT
    exact hT
def bind_ofF (a0 : List XObj) : List XObj :=
  bind_ofLF a0 [] []
def bind_ofR (a0 : List XObj) : RT :=
  (.leaf .ret ⟨slots 31 [(2, .ptr 1 0)], [.vec true ⟨.obj, bind_ofLF a0 [] []⟩, .cells 61 [.vec 0]]⟩ [3, 0])
theorem bind_ofF_tr (a0 : List XObj) (hp0 : a0.length ≤ 64) : Tr Tryd.prog 0 (bodyOf Tryd.f29) (fnBegins Tryd.f29 [.coll ⟨.obj, a0⟩] []) (fnEnds Tryd.prog Tryd.f29 (.agg [.vec 0]) [.vec true ⟨.obj, bind_ofF a0⟩]) := by
  refine Tr_tree (kok _ _ _ _ _ _) (E := E_bind_of) (L := (loopsOf [(0, bind_ofLS a0 0 [] [], [0, 2, 4, 1, 3], bind_ofLT a0 0 [] [])])) 60 9999 (LoopsOk.one (g := loopAt Tryd.f29 0) (b := 0) (by kernel_rfl) (by kernel_rfl) (by kernel_rfl) (by kernel_rfl) (fun Q h => bind_ofL_loop a0 hp0 (by first | assumption | omega | (simp only [List.length_cons, List.length_nil, List.length_append]; omega)) ⟨(0, [], []), ⟨Nat.zero_le _, Nat.le_refl _⟩⟩ Q h)) (bind_ofR a0) (by kernel_rfl) (by kernel_rfl) (by kernel_rfl) ?_
  unfold bind_ofR
  exact ⟨trivial, .inl (by kernel_rfl), by kernel_rfl⟩
noncomputable def bind_of_fact : Fact Tryd.prog := factOf 29 Tryd.f29 (by kernel_rfl) rfl (by kernel_rfl) [.c (.coll .obj)] [] false (fun t u => .agg [.vec 0]) (fun t u => [.vec true ⟨.obj, bind_ofF t.1⟩]) (fun t u => [t.1.length ≤ 64])
  (nofun) (fun t u => by kernel_rfl) (fun t u => by kernel_rfl) (fun t u h => bind_ofF_tr t.1 (h _ List.mem_cons_self))
noncomputable def E_r12_Get : Env := envOf (P := Tryd.prog) [] [] [] ckf
def r12_GetLF (a1 : Int) (a2 : ByteArray) : List XObj → Bool × XObj
  | [] => (false, default)
  | o :: r => cond (cond ((o.kind) == a1) (decide ((o.name) = a2)) false)
    (true, o)
    (r12_GetLF a1 a2 r)
def r12_GetLS (a0 : List XObj) (a1 : Int) (a2 : ByteArray) (i : Nat) : St :=
  ⟨slots 36 [(0, .coll ⟨.obj, a0⟩), (1, .int .u8 a1), (2, .str a2), (6, .ptr 0 0), (8, .int .i64 (i : Int))], [.cells 31 [.int .u8 0, .str (⟨#[]⟩ : ByteArray), .int .u64 0, .int .u64 0, .bool false, .bool false, .str (⟨#[]⟩ : ByteArray), .int .i64 0, .int .i64 0, .int .u8 0, .bool false, .bool false, .str (⟨#[]⟩ : ByteArray), .str (⟨#[]⟩ : ByteArray), .str (⟨#[]⟩ : ByteArray), .str (⟨#[]⟩ : ByteArray), .str (⟨#[]⟩ : ByteArray), .int .u8 0, .int .u64 0, .int .u64 0]]⟩
def r12_GetLR (a0 : List XObj) (a1 : Int) (a2 : ByteArray) (i : Nat) : RT :=
  (.ask (decide ((i : Int) < (a0.length : Int)))
    (.need [0 ≤ (i : Int) ∧ (i : Int) < (a0.length : Int)]
      (.need [((((a0.getD i default).kind) == a1) = true) → (0 ≤ (i : Int) ∧ (i : Int) < (a0.length : Int))]
        (.ask (cond (((a0.getD i default).kind) == a1) (decide (((a0.getD i default).name) = a2)) false)
          (.need [0 ≤ (i : Int) ∧ (i : Int) < (a0.length : Int)]
            (.leaf .ret ⟨slots 36 [(6, .ptr 0 0), (7, .bool true)], [.cells 31 (oc (a0.getD i default))]⟩ []))
          (.leaf .normal ⟨slots 36 [(0, .coll ⟨.obj, a0⟩), (1, .int .u8 a1), (2, .str a2), (6, .ptr 0 0), (8, .int .i64 (IntKind.i64.wrap ((i : Int) + (1 : Int))))], [.cells 31 [.int .u8 0, .str (⟨#[]⟩ : ByteArray), .int .u64 0, .int .u64 0, .bool false, .bool false, .str (⟨#[]⟩ : ByteArray), .int .i64 0, .int .i64 0, .int .u8 0, .bool false, .bool false, .str (⟨#[]⟩ : ByteArray), .str (⟨#[]⟩ : ByteArray), .str (⟨#[]⟩ : ByteArray), .str (⟨#[]⟩ : ByteArray), .str (⟨#[]⟩ : ByteArray), .int .u8 0, .int .u64 0, .int .u64 0]]⟩ []))))
    (.leaf (.exit 0) ⟨slots 36 [(6, .ptr 0 0)], [.cells 31 [.int .u8 0, .str (⟨#[]⟩ : ByteArray), .int .u64 0, .int .u64 0, .bool false, .bool false, .str (⟨#[]⟩ : ByteArray), .int .i64 0, .int .i64 0, .int .u8 0, .bool false, .bool false, .str (⟨#[]⟩ : ByteArray), .str (⟨#[]⟩ : ByteArray), .str (⟨#[]⟩ : ByteArray), .str (⟨#[]⟩ : ByteArray), .str (⟨#[]⟩ : ByteArray), .int .u8 0, .int .u64 0, .int .u64 0]]⟩ []))
def r12_GetLT (a0 : List XObj) (a1 : Int) (a2 : ByteArray) (i : Nat) : Tree :=
  .ask ((r12_GetLF a1 a2 (a0.drop i)).1) (.leaf .ret ⟨slots 36 [(6, .ptr 0 0), (7, .bool true)], [.cells 31 (oc ((r12_GetLF a1 a2 (a0.drop i)).2))]⟩) (.leaf (.exit 0) ⟨slots 36 [(6, .ptr 0 0)], [.cells 31 [.int .u8 0, .str (⟨#[]⟩ : ByteArray), .int .u64 0, .int .u64 0, .bool false, .bool false, .str (⟨#[]⟩ : ByteArray), .int .i64 0, .int .i64 0, .int .u8 0, .bool false, .bool false, .str (⟨#[]⟩ : ByteArray), .str (⟨#[]⟩ : ByteArray), .str (⟨#[]⟩ : ByteArray), .str (⟨#[]⟩ : ByteArray), .str (⟨#[]⟩ : ByteArray), .int .u8 0, .int .u64 0, .int .u64 0]]⟩)
theorem r12_GetL_loop (a0 : List XObj) (a1 : Int) (a2 : ByteArray) (hp0 : a0.length < 4611686018427387904) (hlen : a0.length < 4611686018427387904) (z : { z : Nat // z ≤ a0.length }) (Q : Exit → St → Prop) (h : (r12_GetLT a0 a1 a2 z.1).All Q) : Tr Tryd.prog 0 (.loop (loopAt Tryd.f24 0)) (r12_GetLS a0 a1 a2 z.1) Q := by
  refine Tr_loopT (kok _ _ _ _ _ _) (E := E_r12_Get) (ι := { z : Nat // z ≤ a0.length }) 60 0 (fun _ => noLoops) (fun z => r12_GetLS a0 a1 a2 z.1) (fun z => r12_GetLT a0 a1 a2 z.1) (fun z => r12_GetLR a0 a1 a2 z.1) (fun z => a0.length - z.1) (fun _ => LoopsOk.none) (fun z => by obtain ⟨i, hi⟩ := z; kernel_rfl) (fun z => by obtain ⟨i, hi⟩ := z; kernel_rfl) (fun z => by obtain ⟨i, hi⟩ := z; kernel_rfl) ?_ z Q h
  rintro ⟨i, hi⟩ Q hT
  replace hT : (r12_GetLT a0 a1 a2 i).All Q := hT
  replace hi : i ≤ a0.length := hi
  show (r12_GetLR a0 a1 a2 i).All _
  unfold r12_GetLR
  refine ⟨fun h0 => ?_, fun h0 => ?_⟩
  · have hlt : i < a0.length := by simpa using h0
    have hd := drop_getD hlt
    have hw := wrap_succ (i := i) (by omega)
    refine ⟨need_cons (by first | assumption | omega | (intro; omega) | (simp only [decide_eq_true_eq, decide_eq_false_iff_not, Bool.cond_false_right, Bool.cond_true_right, Bool.cond_true_left, Bool.cond_false_left, Bool.and_eq_true, Bool.or_eq_true, Bool.not_eq_true', bytesLim, maxLen, List.length_cons, List.length_nil, List.length_append, byteSize_lit] at *; omega) | (intro; simp only [decide_eq_true_eq, decide_eq_false_iff_not, Bool.cond_false_right, Bool.cond_true_right, Bool.cond_true_left, Bool.cond_false_left, Bool.and_eq_true, Bool.or_eq_true, Bool.not_eq_true', bytesLim, maxLen, List.length_cons, List.length_nil, List.length_append, byteSize_lit] at *; omega)) (need_nil), ?_⟩
    refine ⟨need_cons (by first | assumption | omega | (intro; omega) | (simp only [decide_eq_true_eq, decide_eq_false_iff_not, Bool.cond_false_right, Bool.cond_true_right, Bool.cond_true_left, Bool.cond_false_left, Bool.and_eq_true, Bool.or_eq_true, Bool.not_eq_true', bytesLim, maxLen, List.length_cons, List.length_nil, List.length_append, byteSize_lit] at *; omega) | (intro; simp only [decide_eq_true_eq, decide_eq_false_iff_not, Bool.cond_false_right, Bool.cond_true_right, Bool.cond_true_left, Bool.cond_false_left, Bool.and_eq_true, Bool.or_eq_true, Bool.not_eq_true', bytesLim, maxLen, List.length_cons, List.length_nil, List.length_append, byteSize_lit] at *; omega)) (need_nil), ?_⟩
    refine ⟨fun h1 => ?_, fun h1 => ?_⟩
    · refine ⟨need_cons (by first | assumption | omega | (intro; omega) | (simp only [decide_eq_true_eq, decide_eq_false_iff_not, Bool.cond_false_right, Bool.cond_true_right, Bool.cond_true_left, Bool.cond_false_left, Bool.and_eq_true, Bool.or_eq_true, Bool.not_eq_true', bytesLim, maxLen, List.length_cons, List.length_nil, List.length_append, byteSize_lit] at *; omega) | (intro; simp only [decide_eq_true_eq, decide_eq_false_iff_not, Bool.cond_false_right, Bool.cond_true_right, Bool.cond_true_left, Bool.cond_false_left, Bool.and_eq_true, Bool.or_eq_true, Bool.not_eq_true', bytesLim, maxLen, List.length_cons, List.length_nil, List.length_append, byteSize_lit] at *; omega)) (need_nil), ?_⟩
      have hF : r12_GetLF a1 a2 (a0.drop i) = (true, (a0.getD i default)) := by rw [hd]; first | exact (cond_t h1 rfl) | simp only [r12_GetLF, h0, h1, cond_true, cond_false]
      unfold r12_GetLT at hT
      rw [hF] at hT
      exact hT.1 rfl
    · have hF : r12_GetLF a1 a2 (a0.drop i) = r12_GetLF a1 a2 (a0.drop (i + 1)) := by rw [hd]; first | exact (cond_f h1 rfl) | simp only [r12_GetLF, h0, h1, cond_true, cond_false]
      refine ⟨⟨(i + 1), by show (i + 1) ≤ a0.length; omega⟩, by show a0.length - (i + 1) < a0.length - i; omega, ?_, ?_⟩
      · show _ = r12_GetLS a0 a1 a2 (i + 1)
        unfold r12_GetLS
        simp only [hw]
      · show (r12_GetLT a0 a1 a2 (i + 1)).All Q
        unfold r12_GetLT at hT ⊢
        rw [hF] at hT
        exact hT
  · have hge : ¬ i < a0.length := by simpa using h0
    have hd : a0.drop i = [] := List.drop_eq_nil_of_le (by omega)
    have hF : r12_GetLF a1 a2 (a0.drop i) = (false, default) := by rw [hd]; first | exact rfl | simp only [r12_GetLF, h0, cond_true, cond_false]
    unfold r12_GetLT at hT
    rw [hF] at hT
    exact hT.2 rfl
def r12_GetF (a0 : List XObj) (a1 : Int) (a2 : ByteArray) : XObj × Bool :=
  cond ((r12_GetLF a1 a2 a0).1)
    (((r12_GetLF a1 a2 a0).2), true)
    ((default : XObj), false)
def r12_GetR (a0 : List XObj) (a1 : Int) (a2 : ByteArray) : RT :=
  (.ask ((r12_GetLF a1 a2 a0).1)
    (.leaf .ret ⟨slots 36 [(6, .ptr 0 0), (7, .bool true)], [.cells 31 (oc ((r12_GetLF a1 a2 a0).2))]⟩ [])
    (.leaf .ret ⟨slots 36 [(6, .ptr 0 0), (7, .bool false)], [.cells 31 [.int .u8 0, .str (⟨#[]⟩ : ByteArray), .int .u64 0, .int .u64 0, .bool false, .bool false, .str (⟨#[]⟩ : ByteArray), .int .i64 0, .int .i64 0, .int .u8 0, .bool false, .bool false, .str (⟨#[]⟩ : ByteArray), .str (⟨#[]⟩ : ByteArray), .str (⟨#[]⟩ : ByteArray), .str (⟨#[]⟩ : ByteArray), .str (⟨#[]⟩ : ByteArray), .int .u8 0, .int .u64 0, .int .u64 0]]⟩ []))
theorem r12_GetF_tr (a0 : List XObj) (a1 : Int) (a2 : ByteArray) (hp0 : a0.length < 4611686018427387904) : Tr Tryd.prog 0 (bodyOf Tryd.f24) (fnBegins Tryd.f24 [.coll ⟨.obj, a0⟩, .int .u8 a1, .str a2] []) (fnEnds Tryd.prog Tryd.f24 (.tup [.agg (oc ((r12_GetF a0 a1 a2).1)), .bool ((r12_GetF a0 a1 a2).2)]) []) := by
  refine Tr_tree (kok _ _ _ _ _ _) (E := E_r12_Get) (L := (loopsOf [(0, r12_GetLS a0 a1 a2 0, [], r12_GetLT a0 a1 a2 0)])) 60 9999 (LoopsOk.one (g := loopAt Tryd.f24 0) (b := 0) (by kernel_rfl) (by kernel_rfl) (by kernel_rfl) (by kernel_rfl) (fun Q h => r12_GetL_loop a0 a1 a2 hp0 (by first | assumption | omega | (simp only [List.length_cons, List.length_nil, List.length_append]; omega)) ⟨0, by first | exact Nat.zero_le _ | (show 0 ≤ a0.length; omega) | (show 0 ≤ a0.length; exact ⟨Nat.zero_le _, by assumption⟩) | (show 0 ≤ a0.length; simp)⟩ Q h)) (r12_GetR a0 a1 a2) (by kernel_rfl) (by kernel_rfl) (by kernel_rfl) ?_
  unfold r12_GetR
  refine ⟨fun h0 => ?_, fun h0 => ?_⟩
  · have hF : r12_GetF a0 a1 a2 = (((r12_GetLF a1 a2 a0).2), true) := by first | exact (cond_t h0 rfl) | simp only [r12_GetF, h0, cond_true, cond_false]
    exact ⟨trivial, .inl (by first | (rw [hF]; kernel_rfl) | kernel_rfl), by first | (rw [hF]; kernel_rfl) | kernel_rfl⟩
  · have hF : r12_GetF a0 a1 a2 = ((default : XObj), false) := by first | exact (cond_f h0 rfl) | simp only [r12_GetF, h0, cond_true, cond_false]
    exact ⟨trivial, .inl (by first | (rw [hF]; kernel_rfl) | kernel_rfl), by first | (rw [hF]; kernel_rfl) | kernel_rfl⟩
noncomputable def r12_Get_fact : Fact Tryd.prog := factOf 24 Tryd.f24 (by kernel_rfl) rfl (by kernel_rfl) [.c (.coll .obj), .c (.int .u8), .c (.str)] [] true (fun t u => .tup [.agg (oc ((r12_GetF t.1 t.2.1 t.2.2.1).1)), .bool ((r12_GetF t.1 t.2.1 t.2.2.1).2)]) (fun t u => []) (fun t u => [t.1.length < 4611686018427387904])
  (fun _ _ _ => rfl) (fun t u => by kernel_rfl) (fun t u => by kernel_rfl) (fun t u h => r12_GetF_tr t.1 t.2.1 t.2.2.1 (h _ List.mem_cons_self))
noncomputable def E_r12_Uniq : Env := envOf (P := Tryd.prog) [r12_Get_fact] [] [] ckf
def r12_UniqLF  : List XObj → List XObj → List XObj
  | [], v2 => v2
  | o :: r, v2 => cond (!((r12_GetF v2 (o.kind) (o.name)).2))
    (r12_UniqLF r (v2 ++ [o]))
    (r12_UniqLF r v2)
def r12_UniqLS (a0 : List XObj) (i : Nat) (v2 : List XObj) : St :=
  ⟨slots 38 [(0, .coll ⟨.obj, a0⟩), (3, .vec 0), (4, .int .i64 (i : Int))], [.vec true ⟨.obj, v2⟩]⟩
def r12_UniqLR (a0 : List XObj) (i : Nat) (v2 : List XObj) : RT :=
  (.ask (decide ((i : Int) < (a0.length : Int)))
    (.need [0 ≤ (i : Int) ∧ (i : Int) < (a0.length : Int), 0 ≤ (i : Int) ∧ (i : Int) < (a0.length : Int), v2.length < 4611686018427387904]
      (.ask (!((r12_GetF v2 ((a0.getD i default).kind) ((a0.getD i default).name)).2))
        (.need [0 ≤ (i : Int) ∧ (i : Int) < (a0.length : Int)]
          (.need [(v2.length + [(a0.getD i default)].length) * 192 ≤ bytesLim ∧ v2.length + [(a0.getD i default)].length ≤ maxLen]
            (.leaf .normal ⟨slots 38 [(0, .coll ⟨.obj, a0⟩), (3, .vec 0), (4, .int .i64 (IntKind.i64.wrap ((i : Int) + (1 : Int))))], [.vec true ⟨.obj, (v2 ++ [(a0.getD i default)])⟩]⟩ [3])))
        (.leaf .normal ⟨slots 38 [(0, .coll ⟨.obj, a0⟩), (3, .vec 0), (4, .int .i64 (IntKind.i64.wrap ((i : Int) + (1 : Int))))], [.vec true ⟨.obj, v2⟩]⟩ [])))
    (.leaf (.exit 0) ⟨slots 38 [(3, .vec 0)], [.vec true ⟨.obj, v2⟩]⟩ []))
def r12_UniqLT (a0 : List XObj) (i : Nat) (v2 : List XObj) : Tree :=
  .leaf (.exit 0) ⟨slots 38 [(3, .vec 0)], [.vec true ⟨.obj, r12_UniqLF (a0.drop i) v2⟩]⟩
theorem r12_UniqL_loop (a0 : List XObj) (hp0 : a0.length ≤ 64) (hlen : a0.length < 4611686018427387904) (z : { z : Nat × List XObj // z.1 ≤ a0.length ∧ z.2.length ≤ z.1 }) (Q : Exit → St → Prop) (h : (r12_UniqLT a0 z.1.1 z.1.2).All Q) : Tr Tryd.prog 0 (.loop (loopAt Tryd.f41 0)) (r12_UniqLS a0 z.1.1 z.1.2) Q := by
  refine Tr_loopT (kok _ _ _ _ _ _) (E := E_r12_Uniq) (ι := { z : Nat × List XObj // z.1 ≤ a0.length ∧ z.2.length ≤ z.1 }) 60 0 (fun _ => noLoops) (fun z => r12_UniqLS a0 z.1.1 z.1.2) (fun z => r12_UniqLT a0 z.1.1 z.1.2) (fun z => r12_UniqLR a0 z.1.1 z.1.2) (fun z => a0.length - z.1.1) (fun _ => LoopsOk.none) (fun z => by obtain ⟨⟨i, v2⟩, hi⟩ := z; kernel_rfl) (fun z => by obtain ⟨⟨i, v2⟩, hi⟩ := z; kernel_rfl) (fun z => by obtain ⟨⟨i, v2⟩, hi⟩ := z; kernel_rfl) ?_ z Q h
  rintro ⟨⟨i, v2⟩, hi⟩ Q hT
  replace hT : (r12_UniqLT a0 i v2).All Q := hT
  replace hi : i ≤ a0.length ∧ v2.length ≤ i := hi
  show (r12_UniqLR a0 i v2).All _
  unfold r12_UniqLR
  refine ⟨fun h0 => ?_, fun h0 => ?_⟩
  · have hlt : i < a0.length := by simpa using h0
    have hd := drop_getD hlt
    have hw := wrap_succ (i := i) (by omega)
    refine ⟨need_cons (by first | assumption | omega | (intro; omega) | (simp only [decide_eq_true_eq, decide_eq_false_iff_not, Bool.cond_false_right, Bool.cond_true_right, Bool.cond_true_left, Bool.cond_false_left, Bool.and_eq_true, Bool.or_eq_true, Bool.not_eq_true', bytesLim, maxLen, List.length_cons, List.length_nil, List.length_append, byteSize_lit] at *; omega) | (intro; simp only [decide_eq_true_eq, decide_eq_false_iff_not, Bool.cond_false_right, Bool.cond_true_right, Bool.cond_true_left, Bool.cond_false_left, Bool.and_eq_true, Bool.or_eq_true, Bool.not_eq_true', bytesLim, maxLen, List.length_cons, List.length_nil, List.length_append, byteSize_lit] at *; omega)) (need_cons (by first | assumption | omega | (intro; omega) | (simp only [decide_eq_true_eq, decide_eq_false_iff_not, Bool.cond_false_right, Bool.cond_true_right, Bool.cond_true_left, Bool.cond_false_left, Bool.and_eq_true, Bool.or_eq_true, Bool.not_eq_true', bytesLim, maxLen, List.length_cons, List.length_nil, List.length_append, byteSize_lit] at *; omega) | (intro; simp only [decide_eq_true_eq, decide_eq_false_iff_not, Bool.cond_false_right, Bool.cond_true_right, Bool.cond_true_left, Bool.cond_false_left, Bool.and_eq_true, Bool.or_eq_true, Bool.not_eq_true', bytesLim, maxLen, List.length_cons, List.length_nil, List.length_append, byteSize_lit] at *; omega)) (need_cons (by first | assumption | omega | (intro; omega) | (simp only [decide_eq_true_eq, decide_eq_false_iff_not, Bool.cond_false_right, Bool.cond_true_right, Bool.cond_true_left, Bool.cond_false_left, Bool.and_eq_true, Bool.or_eq_true, Bool.not_eq_true', bytesLim, maxLen, List.length_cons, List.length_nil, List.length_append, byteSize_lit] at *; omega) | (intro; simp only [decide_eq_true_eq, decide_eq_false_iff_not, Bool.cond_false_right, Bool.cond_true_right, Bool.cond_true_left, Bool.cond_false_left, Bool.and_eq_true, Bool.or_eq_true, Bool.not_eq_true', bytesLim, maxLen, List.length_cons, List.length_nil, List.length_append, byteSize_lit] at *; omega)) (need_nil))), ?_⟩
    refine ⟨fun h1 => ?_, fun h1 => ?_⟩
    · refine ⟨need_cons (by first | assumption | omega | (intro; omega) | (simp only [decide_eq_true_eq, decide_eq_false_iff_not, Bool.cond_false_right, Bool.cond_true_right, Bool.cond_true_left, Bool.cond_false_left, Bool.and_eq_true, Bool.or_eq_true, Bool.not_eq_true', bytesLim, maxLen, List.length_cons, List.length_nil, List.length_append, byteSize_lit] at *; omega) | (intro; simp only [decide_eq_true_eq, decide_eq_false_iff_not, Bool.cond_false_right, Bool.cond_true_right, Bool.cond_true_left, Bool.cond_false_left, Bool.and_eq_true, Bool.or_eq_true, Bool.not_eq_true', bytesLim, maxLen, List.length_cons, List.length_nil, List.length_append, byteSize_lit] at *; omega)) (need_nil), ?_⟩
      refine ⟨need_cons (by first | assumption | omega | (intro; omega) | (simp only [decide_eq_true_eq, decide_eq_false_iff_not, Bool.cond_false_right, Bool.cond_true_right, Bool.cond_true_left, Bool.cond_false_left, Bool.and_eq_true, Bool.or_eq_true, Bool.not_eq_true', bytesLim, maxLen, List.length_cons, List.length_nil, List.length_append, byteSize_lit] at *; omega) | (intro; simp only [decide_eq_true_eq, decide_eq_false_iff_not, Bool.cond_false_right, Bool.cond_true_right, Bool.cond_true_left, Bool.cond_false_left, Bool.and_eq_true, Bool.or_eq_true, Bool.not_eq_true', bytesLim, maxLen, List.length_cons, List.length_nil, List.length_append, byteSize_lit] at *; omega)) (need_nil), ?_⟩
      have hF : r12_UniqLF (a0.drop i) v2 = r12_UniqLF (a0.drop (i + 1)) (v2 ++ [(a0.getD i default)]) := by rw [hd]; first | exact (cond_t h1 rfl) | simp only [r12_UniqLF, h0, h1, cond_true, cond_false]
      refine ⟨⟨((i + 1), (v2 ++ [(a0.getD i default)])), by (first | dsimp only | skip); constructor <;> (try simp only [List.length_append, List.length_cons, List.length_nil]) <;> omega⟩, by show a0.length - (i + 1) < a0.length - i; omega, ?_, ?_⟩
      · show _ = r12_UniqLS a0 (i + 1) (v2 ++ [(a0.getD i default)])
        unfold r12_UniqLS
        simp only [hw]
      · show (r12_UniqLT a0 (i + 1) (v2 ++ [(a0.getD i default)])).All Q
        unfold r12_UniqLT at hT ⊢
        rw [hF] at hT
        exact hT
    · have hF : r12_UniqLF (a0.drop i) v2 = r12_UniqLF (a0.drop (i + 1)) v2 := by rw [hd]; first | exact (cond_f h1 rfl) | simp only [r12_UniqLF, h0, h1, cond_true, cond_false]
      refine ⟨⟨((i + 1), v2), by (first | dsimp only | skip); constructor <;> (try simp only [List.length_append, List.length_cons, List.length_nil]) <;> omega⟩, by show a0.length - (i + 1) < a0.length - i; omega, ?_, ?_⟩
      · show _ = r12_UniqLS a0 (i + 1) v2
        unfold r12_UniqLS
        simp only [hw]
      · show (r12_UniqLT a0 (i + 1) v2).All Q
        unfold r12_UniqLT at hT ⊢
        rw [hF] at hT
        exact hT
  · have hge : ¬ i < a0.length := by simpa using h0
    have hd : a0.drop i = [] := List.drop_eq_nil_of_le (by omega)
    have hF : r12_UniqLF (a0.drop i) v2 = v2 := by rw [hd]; first | exact rfl | simp only [r12_UniqLF, h0, cond_true, cond_false]
    unfold r12_UniqLT at hT
    rw [hF] at hT
    exact hT
def r12_UniqF (a0 : List XObj) : List XObj :=
  r12_UniqLF a0 []
def r12_UniqR (a0 : List XObj) : RT :=
  (.leaf .ret ⟨slots 38 [(2, .vec 0)], [.vec true ⟨.obj, r12_UniqLF a0 []⟩]⟩ [])
theorem r12_UniqF_tr (a0 : List XObj) (hp0 : a0.length ≤ 64) : Tr Tryd.prog 0 (bodyOf Tryd.f41) (fnBegins Tryd.f41 [.coll ⟨.obj, a0⟩] []) (fnEnds Tryd.prog Tryd.f41 (.vec 0) [.vec true ⟨.obj, r12_UniqF a0⟩]) := by
  refine Tr_tree (kok _ _ _ _ _ _) (E := E_r12_Uniq) (L := (loopsOf [(0, r12_UniqLS a0 0 [], [1], r12_UniqLT a0 0 [])])) 60 9999 (LoopsOk.one (g := loopAt Tryd.f41 0) (b := 0) (by kernel_rfl) (by kernel_rfl) (by kernel_rfl) (by kernel_rfl) (fun Q h => r12_UniqL_loop a0 hp0 (by first | assumption | omega | (simp only [List.length_cons, List.length_nil, List.length_append]; omega)) ⟨(0, []), ⟨Nat.zero_le _, Nat.le_refl _⟩⟩ Q h)) (r12_UniqR a0) (by kernel_rfl) (by kernel_rfl) (by kernel_rfl) ?_
  unfold r12_UniqR
  exact ⟨trivial, .inl (by kernel_rfl), by kernel_rfl⟩
noncomputable def r12_Uniq_fact : Fact Tryd.prog := factOf 41 Tryd.f41 (by kernel_rfl) rfl (by kernel_rfl) [.c (.coll .obj)] [] false (fun t u => .vec 0) (fun t u => [.vec true ⟨.obj, r12_UniqF t.1⟩]) (fun t u => [t.1.length ≤ 64])
  (nofun) (fun t u => by kernel_rfl) (fun t u => by kernel_rfl) (fun t u h => r12_UniqF_tr t.1 (h _ List.mem_cons_self))
noncomputable def E_w12_few : Env := envOf (P := Tryd.prog) [] [] [] ckf
def w12_fewF (a0 : List XObj) : List XObj :=
  cond (decide ((a0.length : Int) > (24 : Int)))
    ((a0.take 24).drop 0)
    a0
def w12_fewR (a0 : List XObj) : RT :=
  (.ask (decide ((a0.length : Int) > (24 : Int)))
    (.need [0 ≤ (0 : Int) ∧ (0 : Int) ≤ (24 : Int) ∧ (24 : Int) ≤ (a0.length : Int)]
      (.leaf .ret ⟨slots 9 [(2, .coll ⟨.obj, ((a0.take 24).drop 0)⟩)], []⟩ []))
    (.leaf .ret ⟨slots 9 [(2, .coll ⟨.obj, a0⟩)], []⟩ []))
theorem w12_fewF_tr (a0 : List XObj)  : Tr Tryd.prog 0 (bodyOf Tryd.f11) (fnBegins Tryd.f11 [.coll ⟨.obj, a0⟩] []) (fnEnds Tryd.prog Tryd.f11 (.coll ⟨.obj, w12_fewF a0⟩) []) := by
  refine Tr_tree (kok _ _ _ _ _ _) (E := E_w12_few) (L := noLoops) 60 9999 LoopsOk.none (w12_fewR a0) (by kernel_rfl) (by kernel_rfl) (by kernel_rfl) ?_
  unfold w12_fewR
  refine ⟨fun h0 => ?_, fun h0 => ?_⟩
  · refine ⟨need_cons (by first | assumption | omega | (intro; omega) | (simp only [decide_eq_true_eq, decide_eq_false_iff_not, Bool.cond_false_right, Bool.cond_true_right, Bool.cond_true_left, Bool.cond_false_left, Bool.and_eq_true, Bool.or_eq_true, Bool.not_eq_true', bytesLim, maxLen, List.length_cons, List.length_nil, List.length_append, byteSize_lit] at *; omega) | (intro; simp only [decide_eq_true_eq, decide_eq_false_iff_not, Bool.cond_false_right, Bool.cond_true_right, Bool.cond_true_left, Bool.cond_false_left, Bool.and_eq_true, Bool.or_eq_true, Bool.not_eq_true', bytesLim, maxLen, List.length_cons, List.length_nil, List.length_append, byteSize_lit] at *; omega)) (need_nil), ?_⟩
    have hF : w12_fewF a0 = ((a0.take 24).drop 0) := by first | exact (cond_t h0 rfl) | simp only [w12_fewF, h0, cond_true, cond_false]
    exact ⟨trivial, .inl (by first | (rw [hF]; kernel_rfl) | kernel_rfl), by first | (rw [hF]; kernel_rfl) | kernel_rfl⟩
  · have hF : w12_fewF a0 = a0 := by first | exact (cond_f h0 rfl) | simp only [w12_fewF, h0, cond_true, cond_false]
    exact ⟨trivial, .inl (by first | (rw [hF]; kernel_rfl) | kernel_rfl), by first | (rw [hF]; kernel_rfl) | kernel_rfl⟩
noncomputable def w12_few_fact : Fact Tryd.prog := factOf 11 Tryd.f11 (by kernel_rfl) rfl (by kernel_rfl) [.c (.coll .obj)] [] true (fun t u => .coll ⟨.obj, w12_fewF t.1⟩) (fun t u => []) (fun t u => [])
  (fun _ _ _ => rfl) (fun t u => by kernel_rfl) (fun t u => by kernel_rfl) (fun t u h => w12_fewF_tr t.1 )
end Go.Proofs.YtnfmnipckcidlaaDoor
