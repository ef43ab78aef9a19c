/- Data: what is looked for. -/
import Derived.Test.YtondcpkhedjajaaDoorDFmt
set_option linter.unusedVariables false
set_option linter.unusedSimpArgs false
set_option maxRecDepth 100000
namespace Go.Proofs.YtondcpkhedjajaaDoor
open Go Go.Eng
def ckL : List (Nat × Kind) := [(2, .int .i64), (3, .int .i64), (4, .bool), (5, .int .u8), (6, .int .u8), (9, .str), (10, .str), (11, .str), (12, .int .u64), (21, .int .i32), (23, .int .u64), (26, .int .u8), (27, .int .u8), (28, .int .u8), (29, .int .u8), (31, .obj), (32, .int .u8), (34, .call), (46, .key), (47, .int .i64), (55, .int .u32), (81, .int .u64), (93, .int .u8), (94, .int .u8), (97, .int .i32), (98, .int .i32)]
def ckf : TypeId → Option Kind := fun t => ckL.lookup t
noncomputable def E_data_get : Env := envOf (P := Tryd.prog) [] [] [] ckf
def data_getLF (a1 : Int) (a2 : ByteArray) : List XObj → Bool × XObj
  | [] => (false, (default : XObj))
  | o :: r => cond (cond ((o.kind) == a1) (decide ((o.name) = a2)) false)
    (true, o)
    (data_getLF a1 a2 r)
def data_getLS (a0 : List XObj) (a1 : Int) (a2 : ByteArray) (i : Nat) : St :=
  ⟨slots 30 [(1, .int .u8 a1), (2, .str a2), (6, .ptr 0 0), (7, .bool false), (10, .coll ⟨.obj, a0⟩), (11, .int .i64 (a0.length : Int)), (12, .int .i64 (i : Int))], [.cells 31 [.int .u8 0, .str (⟨#[]⟩ : ByteArray), .int .u64 0, .int .u64 0, .bool false, .bool false, .str (⟨#[]⟩ : ByteArray), .int .i64 0, .int .i64 0, .int .u8 0, .bool false, .bool false, .str (⟨#[]⟩ : ByteArray), .str (⟨#[]⟩ : ByteArray), .str (⟨#[]⟩ : ByteArray), .str (⟨#[]⟩ : ByteArray), .str (⟨#[]⟩ : ByteArray), .int .u8 0, .int .u64 0, .int .u64 0]]⟩
def data_getLR (a0 : List XObj) (a1 : Int) (a2 : ByteArray) (i : Nat) : RT :=
  (.ask (decide ((i : Int) < (a0.length : Int)))
    (.need [0 ≤ (i : Int) ∧ (i : Int) < (a0.length : Int)]
      (.ask (cond (((a0.getD i default).kind) == a1) (decide (((a0.getD i default).name) = a2)) false)
        (.leaf (.exit 0) ⟨slots 30 [(6, .ptr 0 0), (7, .bool true)], [.cells 31 [.int .u8 ((a0.getD i default).kind), .str ((a0.getD i default).name), .int .u64 ((a0.getD i default).version), .int .u64 ((a0.getD i default).born), .bool ((a0.getD i default).deleting), .bool ((a0.getD i default).hold), .str ((a0.getD i default).cls), .int .i64 ((a0.getD i default).size), .int .i64 ((a0.getD i default).got), .int .u8 ((a0.getD i default).mode), .bool ((a0.getD i default).keep), .bool ((a0.getD i default).wait), .str ((a0.getD i default).zone), .str ((a0.getD i default).node), .str ((a0.getD i default).claim), .str ((a0.getD i default).volume), .str ((a0.getD i default).source), .int .u8 ((a0.getD i default).phase), .int .u64 ((a0.getD i default).num), .int .u64 ((a0.getD i default).tag)]]⟩ [])
        (.leaf .normal ⟨slots 30 [(1, .int .u8 a1), (2, .str a2), (6, .ptr 0 0), (7, .bool false), (10, .coll ⟨.obj, a0⟩), (11, .int .i64 (a0.length : Int)), (12, .int .i64 (IntKind.i64.wrap ((i : Int) + (1 : Int))))], [.cells 31 [.int .u8 0, .str (⟨#[]⟩ : ByteArray), .int .u64 0, .int .u64 0, .bool false, .bool false, .str (⟨#[]⟩ : ByteArray), .int .i64 0, .int .i64 0, .int .u8 0, .bool false, .bool false, .str (⟨#[]⟩ : ByteArray), .str (⟨#[]⟩ : ByteArray), .str (⟨#[]⟩ : ByteArray), .str (⟨#[]⟩ : ByteArray), .str (⟨#[]⟩ : ByteArray), .int .u8 0, .int .u64 0, .int .u64 0]]⟩ [])))
    (.leaf (.exit 0) ⟨slots 30 [(6, .ptr 0 0), (7, .bool false)], [.cells 31 [.int .u8 0, .str (⟨#[]⟩ : ByteArray), .int .u64 0, .int .u64 0, .bool false, .bool false, .str (⟨#[]⟩ : ByteArray), .int .i64 0, .int .i64 0, .int .u8 0, .bool false, .bool false, .str (⟨#[]⟩ : ByteArray), .str (⟨#[]⟩ : ByteArray), .str (⟨#[]⟩ : ByteArray), .str (⟨#[]⟩ : ByteArray), .str (⟨#[]⟩ : ByteArray), .int .u8 0, .int .u64 0, .int .u64 0]]⟩ []))
def data_getLT (a0 : List XObj) (a1 : Int) (a2 : ByteArray) (i : Nat) : Tree :=
  .leaf (.exit 0) ⟨slots 30 [(6, .ptr 0 0), (7, .bool ((data_getLF a1 a2 (a0.drop i)).1))], [.cells 31 [.int .u8 (((data_getLF a1 a2 (a0.drop i)).2).kind), .str (((data_getLF a1 a2 (a0.drop i)).2).name), .int .u64 (((data_getLF a1 a2 (a0.drop i)).2).version), .int .u64 (((data_getLF a1 a2 (a0.drop i)).2).born), .bool (((data_getLF a1 a2 (a0.drop i)).2).deleting), .bool (((data_getLF a1 a2 (a0.drop i)).2).hold), .str (((data_getLF a1 a2 (a0.drop i)).2).cls), .int .i64 (((data_getLF a1 a2 (a0.drop i)).2).size), .int .i64 (((data_getLF a1 a2 (a0.drop i)).2).got), .int .u8 (((data_getLF a1 a2 (a0.drop i)).2).mode), .bool (((data_getLF a1 a2 (a0.drop i)).2).keep), .bool (((data_getLF a1 a2 (a0.drop i)).2).wait), .str (((data_getLF a1 a2 (a0.drop i)).2).zone), .str (((data_getLF a1 a2 (a0.drop i)).2).node), .str (((data_getLF a1 a2 (a0.drop i)).2).claim), .str (((data_getLF a1 a2 (a0.drop i)).2).volume), .str (((data_getLF a1 a2 (a0.drop i)).2).source), .int .u8 (((data_getLF a1 a2 (a0.drop i)).2).phase), .int .u64 (((data_getLF a1 a2 (a0.drop i)).2).num), .int .u64 (((data_getLF a1 a2 (a0.drop i)).2).tag)]]⟩
theorem data_getL_loop (a0 : List XObj) (a1 : Int) (a2 : ByteArray) (hp0 : a0.length < 4611686018427387904) (hlen : a0.length < 4611686018427387904) (z : { z : Nat // z ≤ a0.length }) (Q : Exit → St → Prop) (h : (data_getLT a0 a1 a2 z.1).All Q) : Tr Tryd.prog 0 (.loop (loopAt Tryd.f31 0)) (data_getLS a0 a1 a2 z.1) Q := by
  refine Tr_loopT (kok _ _ _ _ _) (E := E_data_get) (ι := { z : Nat // z ≤ a0.length }) 60 0 (fun _ => noLoops) (fun z => data_getLS a0 a1 a2 z.1) (fun z => data_getLT a0 a1 a2 z.1) (fun z => data_getLR a0 a1 a2 z.1) (fun z => a0.length - z.1) (fun _ => LoopsOk.none) (fun z => by obtain ⟨i, hi⟩ := z; kernel_rfl) (fun z => by obtain ⟨i, hi⟩ := z; kernel_rfl) (fun z => by obtain ⟨i, hi⟩ := z; kernel_rfl) ?_ z Q h
  rintro ⟨i, hi⟩ Q hT
  replace hT : (data_getLT a0 a1 a2 i).All Q := hT
  replace hi : i ≤ a0.length := hi
  show (data_getLR a0 a1 a2 i).All _
  unfold data_getLR
  refine ⟨fun h0 => ?_, fun h0 => ?_⟩
  · have hlt : i < a0.length := by simpa using h0
    have hd := drop_getD hlt
    have hw := wrap_succ (i := i) (by omega)
    refine ⟨need_cons (by first | assumption | omega | (intro; omega) | (simp only [decide_eq_true_eq, decide_eq_false_iff_not, Bool.cond_false_right, Bool.cond_true_right, Bool.cond_true_left, Bool.cond_false_left, Bool.and_eq_true, Bool.or_eq_true, Bool.not_eq_true', bytesLim, maxLen, List.length_cons, List.length_nil, List.length_append, byteSize_lit] at *; omega) | (intro; simp only [decide_eq_true_eq, decide_eq_false_iff_not, Bool.cond_false_right, Bool.cond_true_right, Bool.cond_true_left, Bool.cond_false_left, Bool.and_eq_true, Bool.or_eq_true, Bool.not_eq_true', bytesLim, maxLen, List.length_cons, List.length_nil, List.length_append, byteSize_lit] at *; omega)) (need_nil), ?_⟩
    refine ⟨fun h1 => ?_, fun h1 => ?_⟩
    · have hF : data_getLF a1 a2 (a0.drop i) = (true, (a0.getD i default)) := by rw [hd]; first | exact (cond_t h1 rfl) | simp only [data_getLF, h0, h1, cond_true, cond_false]
      unfold data_getLT at hT
      rw [hF] at hT
      exact hT
    · have hF : data_getLF a1 a2 (a0.drop i) = data_getLF a1 a2 (a0.drop (i + 1)) := by rw [hd]; first | exact (cond_f h1 rfl) | simp only [data_getLF, h0, h1, cond_true, cond_false]
      refine ⟨⟨(i + 1), by show (i + 1) ≤ a0.length; omega⟩, by show a0.length - (i + 1) < a0.length - i; omega, ?_, ?_⟩
      · show _ = data_getLS a0 a1 a2 (i + 1)
        unfold data_getLS
        simp only [hw]
      · show (data_getLT a0 a1 a2 (i + 1)).All Q
        unfold data_getLT at hT ⊢
        rw [hF] at hT
        exact hT
  · have hge : ¬ i < a0.length := by simpa using h0
    have hd : a0.drop i = [] := List.drop_eq_nil_of_le (by omega)
    have hF : data_getLF a1 a2 (a0.drop i) = (false, (default : XObj)) := by rw [hd]; first | exact rfl | simp only [data_getLF, h0, cond_true, cond_false]
    unfold data_getLT at hT
    rw [hF] at hT
    exact hT
def data_getF (a0 : List XObj) (a1 : Int) (a2 : ByteArray) : XObj × Bool :=
  (((data_getLF a1 a2 a0).2), (data_getLF a1 a2 a0).1)
def data_getR (a0 : List XObj) (a1 : Int) (a2 : ByteArray) : RT :=
  (.leaf .ret ⟨slots 30 [(6, .ptr 0 0), (7, .bool ((data_getLF a1 a2 a0).1))], [.cells 31 [.int .u8 (((data_getLF a1 a2 a0).2).kind), .str (((data_getLF a1 a2 a0).2).name), .int .u64 (((data_getLF a1 a2 a0).2).version), .int .u64 (((data_getLF a1 a2 a0).2).born), .bool (((data_getLF a1 a2 a0).2).deleting), .bool (((data_getLF a1 a2 a0).2).hold), .str (((data_getLF a1 a2 a0).2).cls), .int .i64 (((data_getLF a1 a2 a0).2).size), .int .i64 (((data_getLF a1 a2 a0).2).got), .int .u8 (((data_getLF a1 a2 a0).2).mode), .bool (((data_getLF a1 a2 a0).2).keep), .bool (((data_getLF a1 a2 a0).2).wait), .str (((data_getLF a1 a2 a0).2).zone), .str (((data_getLF a1 a2 a0).2).node), .str (((data_getLF a1 a2 a0).2).claim), .str (((data_getLF a1 a2 a0).2).volume), .str (((data_getLF a1 a2 a0).2).source), .int .u8 (((data_getLF a1 a2 a0).2).phase), .int .u64 (((data_getLF a1 a2 a0).2).num), .int .u64 (((data_getLF a1 a2 a0).2).tag)]]⟩ [])
theorem data_getF_tr (a0 : List XObj) (a1 : Int) (a2 : ByteArray) (hp0 : a0.length < 4611686018427387904) : Tr Tryd.prog 0 (bodyOf Tryd.f31) (fnBegins Tryd.f31 [.coll ⟨.obj, a0⟩, .int .u8 a1, .str a2] []) (fnEnds Tryd.prog Tryd.f31 (.tup [.agg [.int .u8 (((data_getF a0 a1 a2).1).kind), .str (((data_getF a0 a1 a2).1).name), .int .u64 (((data_getF a0 a1 a2).1).version), .int .u64 (((data_getF a0 a1 a2).1).born), .bool (((data_getF a0 a1 a2).1).deleting), .bool (((data_getF a0 a1 a2).1).hold), .str (((data_getF a0 a1 a2).1).cls), .int .i64 (((data_getF a0 a1 a2).1).size), .int .i64 (((data_getF a0 a1 a2).1).got), .int .u8 (((data_getF a0 a1 a2).1).mode), .bool (((data_getF a0 a1 a2).1).keep), .bool (((data_getF a0 a1 a2).1).wait), .str (((data_getF a0 a1 a2).1).zone), .str (((data_getF a0 a1 a2).1).node), .str (((data_getF a0 a1 a2).1).claim), .str (((data_getF a0 a1 a2).1).volume), .str (((data_getF a0 a1 a2).1).source), .int .u8 (((data_getF a0 a1 a2).1).phase), .int .u64 (((data_getF a0 a1 a2).1).num), .int .u64 (((data_getF a0 a1 a2).1).tag)], .bool ((data_getF a0 a1 a2).2)]) []) := by
  refine Tr_tree (kok _ _ _ _ _) (E := E_data_get) (L := (loopsOf [(0, data_getLS a0 a1 a2 0, [], data_getLT a0 a1 a2 0)])) 60 9999 (LoopsOk.one (g := loopAt Tryd.f31 0) (b := 0) (by kernel_rfl) (by kernel_rfl) (by kernel_rfl) (by kernel_rfl) (fun Q h => data_getL_loop a0 a1 a2 hp0 (by first | assumption | omega | (simp only [List.length_cons, List.length_nil, List.length_append]; omega)) ⟨0, by first | exact Nat.zero_le _ | (show 0 ≤ a0.length; omega) | (show 0 ≤ a0.length; exact ⟨Nat.zero_le _, by assumption⟩) | (show 0 ≤ a0.length; simp)⟩ Q h)) (data_getR a0 a1 a2) (by kernel_rfl) (by kernel_rfl) (by kernel_rfl) ?_
  unfold data_getR
  exact ⟨trivial, .inl (by kernel_rfl), by kernel_rfl⟩
noncomputable def data_get_fact : Fact Tryd.prog := factOf 31 Tryd.f31 (by kernel_rfl) rfl (by kernel_rfl) [.c (.coll .obj), .c (.int .u8), .c (.str)] [] true (fun t u => .tup [.agg [.int .u8 (((data_getF t.1 t.2.1 t.2.2.1).1).kind), .str (((data_getF t.1 t.2.1 t.2.2.1).1).name), .int .u64 (((data_getF t.1 t.2.1 t.2.2.1).1).version), .int .u64 (((data_getF t.1 t.2.1 t.2.2.1).1).born), .bool (((data_getF t.1 t.2.1 t.2.2.1).1).deleting), .bool (((data_getF t.1 t.2.1 t.2.2.1).1).hold), .str (((data_getF t.1 t.2.1 t.2.2.1).1).cls), .int .i64 (((data_getF t.1 t.2.1 t.2.2.1).1).size), .int .i64 (((data_getF t.1 t.2.1 t.2.2.1).1).got), .int .u8 (((data_getF t.1 t.2.1 t.2.2.1).1).mode), .bool (((data_getF t.1 t.2.1 t.2.2.1).1).keep), .bool (((data_getF t.1 t.2.1 t.2.2.1).1).wait), .str (((data_getF t.1 t.2.1 t.2.2.1).1).zone), .str (((data_getF t.1 t.2.1 t.2.2.1).1).node), .str (((data_getF t.1 t.2.1 t.2.2.1).1).claim), .str (((data_getF t.1 t.2.1 t.2.2.1).1).volume), .str (((data_getF t.1 t.2.1 t.2.2.1).1).source), .int .u8 (((data_getF t.1 t.2.1 t.2.2.1).1).phase), .int .u64 (((data_getF t.1 t.2.1 t.2.2.1).1).num), .int .u64 (((data_getF t.1 t.2.1 t.2.2.1).1).tag)], .bool ((data_getF t.1 t.2.1 t.2.2.1).2)]) (fun t u => []) (fun t u => [t.1.length < 4611686018427387904])
  (fun _ _ _ => rfl) (fun t u => by kernel_rfl) (fun t u => by kernel_rfl) (fun t u h => data_getF_tr t.1 t.2.1 t.2.2.1 (h _ List.mem_cons_self))
noncomputable def E_r12_Get : Env := envOf (P := Tryd.prog) [] [] [] ckf
def r12_GetLF (a1 : Int) (a2 : ByteArray) : List XObj → Bool × XObj
  | [] => (false, default)
  | o :: r => cond (cond ((o.kind) == a1) (decide ((o.name) = a2)) false)
    (true, o)
    (r12_GetLF a1 a2 r)
def r12_GetLS (a0 : List XObj) (a1 : Int) (a2 : ByteArray) (i : Nat) : St :=
  ⟨slots 36 [(0, .coll ⟨.obj, a0⟩), (1, .int .u8 a1), (2, .str a2), (6, .ptr 0 0), (8, .int .i64 (i : Int))], [.cells 31 [.int .u8 0, .str (⟨#[]⟩ : ByteArray), .int .u64 0, .int .u64 0, .bool false, .bool false, .str (⟨#[]⟩ : ByteArray), .int .i64 0, .int .i64 0, .int .u8 0, .bool false, .bool false, .str (⟨#[]⟩ : ByteArray), .str (⟨#[]⟩ : ByteArray), .str (⟨#[]⟩ : ByteArray), .str (⟨#[]⟩ : ByteArray), .str (⟨#[]⟩ : ByteArray), .int .u8 0, .int .u64 0, .int .u64 0]]⟩
def r12_GetLR (a0 : List XObj) (a1 : Int) (a2 : ByteArray) (i : Nat) : RT :=
  (.ask (decide ((i : Int) < (a0.length : Int)))
    (.need [0 ≤ (i : Int) ∧ (i : Int) < (a0.length : Int)]
      (.need [((((a0.getD i default).kind) == a1) = true) → (0 ≤ (i : Int) ∧ (i : Int) < (a0.length : Int))]
        (.ask (cond (((a0.getD i default).kind) == a1) (decide (((a0.getD i default).name) = a2)) false)
          (.need [0 ≤ (i : Int) ∧ (i : Int) < (a0.length : Int)]
            (.leaf .ret ⟨slots 36 [(6, .ptr 0 0), (7, .bool true)], [.cells 31 [.int .u8 ((a0.getD i default).kind), .str ((a0.getD i default).name), .int .u64 ((a0.getD i default).version), .int .u64 ((a0.getD i default).born), .bool ((a0.getD i default).deleting), .bool ((a0.getD i default).hold), .str ((a0.getD i default).cls), .int .i64 ((a0.getD i default).size), .int .i64 ((a0.getD i default).got), .int .u8 ((a0.getD i default).mode), .bool ((a0.getD i default).keep), .bool ((a0.getD i default).wait), .str ((a0.getD i default).zone), .str ((a0.getD i default).node), .str ((a0.getD i default).claim), .str ((a0.getD i default).volume), .str ((a0.getD i default).source), .int .u8 ((a0.getD i default).phase), .int .u64 ((a0.getD i default).num), .int .u64 ((a0.getD i default).tag)]]⟩ []))
          (.leaf .normal ⟨slots 36 [(0, .coll ⟨.obj, a0⟩), (1, .int .u8 a1), (2, .str a2), (6, .ptr 0 0), (8, .int .i64 (IntKind.i64.wrap ((i : Int) + (1 : Int))))], [.cells 31 [.int .u8 0, .str (⟨#[]⟩ : ByteArray), .int .u64 0, .int .u64 0, .bool false, .bool false, .str (⟨#[]⟩ : ByteArray), .int .i64 0, .int .i64 0, .int .u8 0, .bool false, .bool false, .str (⟨#[]⟩ : ByteArray), .str (⟨#[]⟩ : ByteArray), .str (⟨#[]⟩ : ByteArray), .str (⟨#[]⟩ : ByteArray), .str (⟨#[]⟩ : ByteArray), .int .u8 0, .int .u64 0, .int .u64 0]]⟩ []))))
    (.leaf (.exit 0) ⟨slots 36 [(6, .ptr 0 0)], [.cells 31 [.int .u8 0, .str (⟨#[]⟩ : ByteArray), .int .u64 0, .int .u64 0, .bool false, .bool false, .str (⟨#[]⟩ : ByteArray), .int .i64 0, .int .i64 0, .int .u8 0, .bool false, .bool false, .str (⟨#[]⟩ : ByteArray), .str (⟨#[]⟩ : ByteArray), .str (⟨#[]⟩ : ByteArray), .str (⟨#[]⟩ : ByteArray), .str (⟨#[]⟩ : ByteArray), .int .u8 0, .int .u64 0, .int .u64 0]]⟩ []))
def r12_GetLT (a0 : List XObj) (a1 : Int) (a2 : ByteArray) (i : Nat) : Tree :=
  .ask ((r12_GetLF a1 a2 (a0.drop i)).1) (.leaf .ret ⟨slots 36 [(6, .ptr 0 0), (7, .bool true)], [.cells 31 [.int .u8 (((r12_GetLF a1 a2 (a0.drop i)).2).kind), .str (((r12_GetLF a1 a2 (a0.drop i)).2).name), .int .u64 (((r12_GetLF a1 a2 (a0.drop i)).2).version), .int .u64 (((r12_GetLF a1 a2 (a0.drop i)).2).born), .bool (((r12_GetLF a1 a2 (a0.drop i)).2).deleting), .bool (((r12_GetLF a1 a2 (a0.drop i)).2).hold), .str (((r12_GetLF a1 a2 (a0.drop i)).2).cls), .int .i64 (((r12_GetLF a1 a2 (a0.drop i)).2).size), .int .i64 (((r12_GetLF a1 a2 (a0.drop i)).2).got), .int .u8 (((r12_GetLF a1 a2 (a0.drop i)).2).mode), .bool (((r12_GetLF a1 a2 (a0.drop i)).2).keep), .bool (((r12_GetLF a1 a2 (a0.drop i)).2).wait), .str (((r12_GetLF a1 a2 (a0.drop i)).2).zone), .str (((r12_GetLF a1 a2 (a0.drop i)).2).node), .str (((r12_GetLF a1 a2 (a0.drop i)).2).claim), .str (((r12_GetLF a1 a2 (a0.drop i)).2).volume), .str (((r12_GetLF a1 a2 (a0.drop i)).2).source), .int .u8 (((r12_GetLF a1 a2 (a0.drop i)).2).phase), .int .u64 (((r12_GetLF a1 a2 (a0.drop i)).2).num), .int .u64 (((r12_GetLF a1 a2 (a0.drop i)).2).tag)]]⟩) (.leaf (.exit 0) ⟨slots 36 [(6, .ptr 0 0)], [.cells 31 [.int .u8 0, .str (⟨#[]⟩ : ByteArray), .int .u64 0, .int .u64 0, .bool false, .bool false, .str (⟨#[]⟩ : ByteArray), .int .i64 0, .int .i64 0, .int .u8 0, .bool false, .bool false, .str (⟨#[]⟩ : ByteArray), .str (⟨#[]⟩ : ByteArray), .str (⟨#[]⟩ : ByteArray), .str (⟨#[]⟩ : ByteArray), .str (⟨#[]⟩ : ByteArray), .int .u8 0, .int .u64 0, .int .u64 0]]⟩)
theorem r12_GetL_loop (a0 : List XObj) (a1 : Int) (a2 : ByteArray) (hp0 : a0.length < 4611686018427387904) (hlen : a0.length < 4611686018427387904) (z : { z : Nat // z ≤ a0.length }) (Q : Exit → St → Prop) (h : (r12_GetLT a0 a1 a2 z.1).All Q) : Tr Tryd.prog 0 (.loop (loopAt Tryd.f20 0)) (r12_GetLS a0 a1 a2 z.1) Q := by
  refine Tr_loopT (kok _ _ _ _ _) (E := E_r12_Get) (ι := { z : Nat // z ≤ a0.length }) 60 0 (fun _ => noLoops) (fun z => r12_GetLS a0 a1 a2 z.1) (fun z => r12_GetLT a0 a1 a2 z.1) (fun z => r12_GetLR a0 a1 a2 z.1) (fun z => a0.length - z.1) (fun _ => LoopsOk.none) (fun z => by obtain ⟨i, hi⟩ := z; kernel_rfl) (fun z => by obtain ⟨i, hi⟩ := z; kernel_rfl) (fun z => by obtain ⟨i, hi⟩ := z; kernel_rfl) ?_ z Q h
  rintro ⟨i, hi⟩ Q hT
  replace hT : (r12_GetLT a0 a1 a2 i).All Q := hT
  replace hi : i ≤ a0.length := hi
  show (r12_GetLR a0 a1 a2 i).All _
  unfold r12_GetLR
  refine ⟨fun h0 => ?_, fun h0 => ?_⟩
  · have hlt : i < a0.length := by simpa using h0
    have hd := drop_getD hlt
    have hw := wrap_succ (i := i) (by omega)
    refine ⟨need_cons (by first | assumption | omega | (intro; omega) | (simp only [decide_eq_true_eq, decide_eq_false_iff_not, Bool.cond_false_right, Bool.cond_true_right, Bool.cond_true_left, Bool.cond_false_left, Bool.and_eq_true, Bool.or_eq_true, Bool.not_eq_true', bytesLim, maxLen, List.length_cons, List.length_nil, List.length_append, byteSize_lit] at *; omega) | (intro; simp only [decide_eq_true_eq, decide_eq_false_iff_not, Bool.cond_false_right, Bool.cond_true_right, Bool.cond_true_left, Bool.cond_false_left, Bool.and_eq_true, Bool.or_eq_true, Bool.not_eq_true', bytesLim, maxLen, List.length_cons, List.length_nil, List.length_append, byteSize_lit] at *; omega)) (need_nil), ?_⟩
    refine ⟨need_cons (by first | assumption | omega | (intro; omega) | (simp only [decide_eq_true_eq, decide_eq_false_iff_not, Bool.cond_false_right, Bool.cond_true_right, Bool.cond_true_left, Bool.cond_false_left, Bool.and_eq_true, Bool.or_eq_true, Bool.not_eq_true', bytesLim, maxLen, List.length_cons, List.length_nil, List.length_append, byteSize_lit] at *; omega) | (intro; simp only [decide_eq_true_eq, decide_eq_false_iff_not, Bool.cond_false_right, Bool.cond_true_right, Bool.cond_true_left, Bool.cond_false_left, Bool.and_eq_true, Bool.or_eq_true, Bool.not_eq_true', bytesLim, maxLen, List.length_cons, List.length_nil, List.length_append, byteSize_lit] at *; omega)) (need_nil), ?_⟩
    refine ⟨fun h1 => ?_, fun h1 => ?_⟩
    · refine ⟨need_cons (by first | assumption | omega | (intro; omega) | (simp only [decide_eq_true_eq, decide_eq_false_iff_not, Bool.cond_false_right, Bool.cond_true_right, Bool.cond_true_left, Bool.cond_false_left, Bool.and_eq_true, Bool.or_eq_true, Bool.not_eq_true', bytesLim, maxLen, List.length_cons, List.length_nil, List.length_append, byteSize_lit] at *; omega) | (intro; simp only [decide_eq_true_eq, decide_eq_false_iff_not, Bool.cond_false_right, Bool.cond_true_right, Bool.cond_true_left, Bool.cond_false_left, Bool.and_eq_true, Bool.or_eq_true, Bool.not_eq_true', bytesLim, maxLen, List.length_cons, List.length_nil, List.length_append, byteSize_lit] at *; omega)) (need_nil), ?_⟩
      have hF : r12_GetLF a1 a2 (a0.drop i) = (true, (a0.getD i default)) := by rw [hd]; first | exact (cond_t h1 rfl) | simp only [r12_GetLF, h0, h1, cond_true, cond_false]
      unfold r12_GetLT at hT
      rw [hF] at hT
      exact hT.1 rfl
    · have hF : r12_GetLF a1 a2 (a0.drop i) = r12_GetLF a1 a2 (a0.drop (i + 1)) := by rw [hd]; first | exact (cond_f h1 rfl) | simp only [r12_GetLF, h0, h1, cond_true, cond_false]
      refine ⟨⟨(i + 1), by show (i + 1) ≤ a0.length; omega⟩, by show a0.length - (i + 1) < a0.length - i; omega, ?_, ?_⟩
      · show _ = r12_GetLS a0 a1 a2 (i + 1)
        unfold r12_GetLS
        simp only [hw]
      · show (r12_GetLT a0 a1 a2 (i + 1)).All Q
        unfold r12_GetLT at hT ⊢
        rw [hF] at hT
        exact hT
  · have hge : ¬ i < a0.length := by simpa using h0
    have hd : a0.drop i = [] := List.drop_eq_nil_of_le (by omega)
    have hF : r12_GetLF a1 a2 (a0.drop i) = (false, default) := by rw [hd]; first | exact rfl | simp only [r12_GetLF, h0, cond_true, cond_false]
    unfold r12_GetLT at hT
    rw [hF] at hT
    exact hT.2 rfl
def r12_GetF (a0 : List XObj) (a1 : Int) (a2 : ByteArray) : XObj × Bool :=
  cond ((r12_GetLF a1 a2 a0).1)
    (((r12_GetLF a1 a2 a0).2), true)
    ((default : XObj), false)
def r12_GetR (a0 : List XObj) (a1 : Int) (a2 : ByteArray) : RT :=
  (.ask ((r12_GetLF a1 a2 a0).1)
    (.leaf .ret ⟨slots 36 [(6, .ptr 0 0), (7, .bool true)], [.cells 31 [.int .u8 (((r12_GetLF a1 a2 a0).2).kind), .str (((r12_GetLF a1 a2 a0).2).name), .int .u64 (((r12_GetLF a1 a2 a0).2).version), .int .u64 (((r12_GetLF a1 a2 a0).2).born), .bool (((r12_GetLF a1 a2 a0).2).deleting), .bool (((r12_GetLF a1 a2 a0).2).hold), .str (((r12_GetLF a1 a2 a0).2).cls), .int .i64 (((r12_GetLF a1 a2 a0).2).size), .int .i64 (((r12_GetLF a1 a2 a0).2).got), .int .u8 (((r12_GetLF a1 a2 a0).2).mode), .bool (((r12_GetLF a1 a2 a0).2).keep), .bool (((r12_GetLF a1 a2 a0).2).wait), .str (((r12_GetLF a1 a2 a0).2).zone), .str (((r12_GetLF a1 a2 a0).2).node), .str (((r12_GetLF a1 a2 a0).2).claim), .str (((r12_GetLF a1 a2 a0).2).volume), .str (((r12_GetLF a1 a2 a0).2).source), .int .u8 (((r12_GetLF a1 a2 a0).2).phase), .int .u64 (((r12_GetLF a1 a2 a0).2).num), .int .u64 (((r12_GetLF a1 a2 a0).2).tag)]]⟩ [])
    (.leaf .ret ⟨slots 36 [(6, .ptr 0 0), (7, .bool false)], [.cells 31 [.int .u8 0, .str (⟨#[]⟩ : ByteArray), .int .u64 0, .int .u64 0, .bool false, .bool false, .str (⟨#[]⟩ : ByteArray), .int .i64 0, .int .i64 0, .int .u8 0, .bool false, .bool false, .str (⟨#[]⟩ : ByteArray), .str (⟨#[]⟩ : ByteArray), .str (⟨#[]⟩ : ByteArray), .str (⟨#[]⟩ : ByteArray), .str (⟨#[]⟩ : ByteArray), .int .u8 0, .int .u64 0, .int .u64 0]]⟩ []))
theorem r12_GetF_tr (a0 : List XObj) (a1 : Int) (a2 : ByteArray) (hp0 : a0.length < 4611686018427387904) : Tr Tryd.prog 0 (bodyOf Tryd.f20) (fnBegins Tryd.f20 [.coll ⟨.obj, a0⟩, .int .u8 a1, .str a2] []) (fnEnds Tryd.prog Tryd.f20 (.tup [.agg [.int .u8 (((r12_GetF a0 a1 a2).1).kind), .str (((r12_GetF a0 a1 a2).1).name), .int .u64 (((r12_GetF a0 a1 a2).1).version), .int .u64 (((r12_GetF a0 a1 a2).1).born), .bool (((r12_GetF a0 a1 a2).1).deleting), .bool (((r12_GetF a0 a1 a2).1).hold), .str (((r12_GetF a0 a1 a2).1).cls), .int .i64 (((r12_GetF a0 a1 a2).1).size), .int .i64 (((r12_GetF a0 a1 a2).1).got), .int .u8 (((r12_GetF a0 a1 a2).1).mode), .bool (((r12_GetF a0 a1 a2).1).keep), .bool (((r12_GetF a0 a1 a2).1).wait), .str (((r12_GetF a0 a1 a2).1).zone), .str (((r12_GetF a0 a1 a2).1).node), .str (((r12_GetF a0 a1 a2).1).claim), .str (((r12_GetF a0 a1 a2).1).volume), .str (((r12_GetF a0 a1 a2).1).source), .int .u8 (((r12_GetF a0 a1 a2).1).phase), .int .u64 (((r12_GetF a0 a1 a2).1).num), .int .u64 (((r12_GetF a0 a1 a2).1).tag)], .bool ((r12_GetF a0 a1 a2).2)]) []) := by
  refine Tr_tree (kok _ _ _ _ _) (E := E_r12_Get) (L := (loopsOf [(0, r12_GetLS a0 a1 a2 0, [], r12_GetLT a0 a1 a2 0)])) 60 9999 (LoopsOk.one (g := loopAt Tryd.f20 0) (b := 0) (by kernel_rfl) (by kernel_rfl) (by kernel_rfl) (by kernel_rfl) (fun Q h => r12_GetL_loop a0 a1 a2 hp0 (by first | assumption | omega | (simp only [List.length_cons, List.length_nil, List.length_append]; omega)) ⟨0, by first | exact Nat.zero_le _ | (show 0 ≤ a0.length; omega) | (show 0 ≤ a0.length; exact ⟨Nat.zero_le _, by assumption⟩) | (show 0 ≤ a0.length; simp)⟩ Q h)) (r12_GetR a0 a1 a2) (by kernel_rfl) (by kernel_rfl) (by kernel_rfl) ?_
  unfold r12_GetR
  refine ⟨fun h0 => ?_, fun h0 => ?_⟩
  · have hF : r12_GetF a0 a1 a2 = (((r12_GetLF a1 a2 a0).2), true) := by first | exact (cond_t h0 rfl) | simp only [r12_GetF, h0, cond_true, cond_false]
    exact ⟨trivial, .inl (by first | (rw [hF]; kernel_rfl) | kernel_rfl), by first | (rw [hF]; kernel_rfl) | kernel_rfl⟩
  · have hF : r12_GetF a0 a1 a2 = ((default : XObj), false) := by first | exact (cond_f h0 rfl) | simp only [r12_GetF, h0, cond_true, cond_false]
    exact ⟨trivial, .inl (by first | (rw [hF]; kernel_rfl) | kernel_rfl), by first | (rw [hF]; kernel_rfl) | kernel_rfl⟩
noncomputable def r12_Get_fact : Fact Tryd.prog := factOf 20 Tryd.f20 (by kernel_rfl) rfl (by kernel_rfl) [.c (.coll .obj), .c (.int .u8), .c (.str)] [] true (fun t u => .tup [.agg [.int .u8 (((r12_GetF t.1 t.2.1 t.2.2.1).1).kind), .str (((r12_GetF t.1 t.2.1 t.2.2.1).1).name), .int .u64 (((r12_GetF t.1 t.2.1 t.2.2.1).1).version), .int .u64 (((r12_GetF t.1 t.2.1 t.2.2.1).1).born), .bool (((r12_GetF t.1 t.2.1 t.2.2.1).1).deleting), .bool (((r12_GetF t.1 t.2.1 t.2.2.1).1).hold), .str (((r12_GetF t.1 t.2.1 t.2.2.1).1).cls), .int .i64 (((r12_GetF t.1 t.2.1 t.2.2.1).1).size), .int .i64 (((r12_GetF t.1 t.2.1 t.2.2.1).1).got), .int .u8 (((r12_GetF t.1 t.2.1 t.2.2.1).1).mode), .bool (((r12_GetF t.1 t.2.1 t.2.2.1).1).keep), .bool (((r12_GetF t.1 t.2.1 t.2.2.1).1).wait), .str (((r12_GetF t.1 t.2.1 t.2.2.1).1).zone), .str (((r12_GetF t.1 t.2.1 t.2.2.1).1).node), .str (((r12_GetF t.1 t.2.1 t.2.2.1).1).claim), .str (((r12_GetF t.1 t.2.1 t.2.2.1).1).volume), .str (((r12_GetF t.1 t.2.1 t.2.2.1).1).source), .int .u8 (((r12_GetF t.1 t.2.1 t.2.2.1).1).phase), .int .u64 (((r12_GetF t.1 t.2.1 t.2.2.1).1).num), .int .u64 (((r12_GetF t.1 t.2.1 t.2.2.1).1).tag)], .bool ((r12_GetF t.1 t.2.1 t.2.2.1).2)]) (fun t u => []) (fun t u => [t.1.length < 4611686018427387904])
  (fun _ _ _ => rfl) (fun t u => by kernel_rfl) (fun t u => by kernel_rfl) (fun t u h => r12_GetF_tr t.1 t.2.1 t.2.2.1 (h _ List.mem_cons_self))
noncomputable def E_w14_few : Env := envOf (P := Tryd.prog) [] [] [] ckf
def w14_fewF (a0 : List XObj) : List XObj :=
  cond (decide ((a0.length : Int) > (24 : Int)))
    ((a0.take 24).drop 0)
    a0
def w14_fewR (a0 : List XObj) : RT :=
  (.ask (decide ((a0.length : Int) > (24 : Int)))
    (.need [0 ≤ (0 : Int) ∧ (0 : Int) ≤ (24 : Int) ∧ (24 : Int) ≤ (a0.length : Int)]
      (.leaf .ret ⟨slots 9 [(2, .coll ⟨.obj, ((a0.take 24).drop 0)⟩)], []⟩ []))
    (.leaf .ret ⟨slots 9 [(2, .coll ⟨.obj, a0⟩)], []⟩ []))
theorem w14_fewF_tr (a0 : List XObj)  : Tr Tryd.prog 0 (bodyOf Tryd.f12) (fnBegins Tryd.f12 [.coll ⟨.obj, a0⟩] []) (fnEnds Tryd.prog Tryd.f12 (.coll ⟨.obj, w14_fewF a0⟩) []) := by
  refine Tr_tree (kok _ _ _ _ _) (E := E_w14_few) (L := noLoops) 60 9999 LoopsOk.none (w14_fewR a0) (by kernel_rfl) (by kernel_rfl) (by kernel_rfl) ?_
  unfold w14_fewR
  refine ⟨fun h0 => ?_, fun h0 => ?_⟩
  · refine ⟨need_cons (by first | assumption | omega | (intro; omega) | (simp only [decide_eq_true_eq, decide_eq_false_iff_not, Bool.cond_false_right, Bool.cond_true_right, Bool.cond_true_left, Bool.cond_false_left, Bool.and_eq_true, Bool.or_eq_true, Bool.not_eq_true', bytesLim, maxLen, List.length_cons, List.length_nil, List.length_append, byteSize_lit] at *; omega) | (intro; simp only [decide_eq_true_eq, decide_eq_false_iff_not, Bool.cond_false_right, Bool.cond_true_right, Bool.cond_true_left, Bool.cond_false_left, Bool.and_eq_true, Bool.or_eq_true, Bool.not_eq_true', bytesLim, maxLen, List.length_cons, List.length_nil, List.length_append, byteSize_lit] at *; omega)) (need_nil), ?_⟩
    have hF : w14_fewF a0 = ((a0.take 24).drop 0) := by first | exact (cond_t h0 rfl) | simp only [w14_fewF, h0, cond_true, cond_false]
    exact ⟨trivial, .inl (by first | (rw [hF]; kernel_rfl) | kernel_rfl), by first | (rw [hF]; kernel_rfl) | kernel_rfl⟩
  · have hF : w14_fewF a0 = a0 := by first | exact (cond_f h0 rfl) | simp only [w14_fewF, h0, cond_true, cond_false]
    exact ⟨trivial, .inl (by first | (rw [hF]; kernel_rfl) | kernel_rfl), by first | (rw [hF]; kernel_rfl) | kernel_rfl⟩
noncomputable def w14_few_fact : Fact Tryd.prog := factOf 12 Tryd.f12 (by kernel_rfl) rfl (by kernel_rfl) [.c (.coll .obj)] [] true (fun t u => .coll ⟨.obj, w14_fewF t.1⟩) (fun t u => []) (fun t u => [])
  (fun _ _ _ => rfl) (fun t u => by kernel_rfl) (fun t u => by kernel_rfl) (fun t u h => w14_fewF_tr t.1 )
end Go.Proofs.YtondcpkhedjajaaDoor
