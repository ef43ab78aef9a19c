/- Attach: the one of a key. -/
import Derived.Test.YtbcnehpndoghcaaDH0
set_option linter.unusedVariables false
set_option linter.unusedSimpArgs false
set_option maxRecDepth 100000
namespace Go.Proofs.Ytbcnehpndoghcaa
open Go Go.Eng
def ckL : List (Nat × Kind) := [(2, .int .i64), (3, .int .i64), (4, .bool), (5, .int .u8), (6, .int .u8), (9, .str), (10, .str), (11, .str), (12, .int .u64), (21, .int .i32), (26, .strs), (31, .int .u64), (32, .int .u8), (33, .int .u8), (34, .int .u8), (35, .int .u8), (37, .obj), (38, .int .u8), (40, .call), (49, .int .i64), (56, .int .u32), (60, .vol), (84, .key), (94, .int .u64), (119, .int .u8), (120, .int .u8), (122, .int .i32), (123, .int .i32)]
def ckf : TypeId → Option Kind := fun t => ckL.lookup t
noncomputable def E_attach_firsts : Env := envOf (P := Try.prog) [] [] [] ckf
def attach_firstsF (a0 : List XObj) : List XObj :=
  a0
def attach_firstsR (a0 : List XObj) : RT :=
  (.leaf .ret ⟨slots 4 [(2, .fn 54 [.ptr 0 0])], [.cells 22 [.coll ⟨.obj, a0⟩]]⟩ [])
theorem attach_firstsF_tr (a0 : List XObj)  : Tr Try.prog 0 (bodyOf Try.f27) (fnBegins Try.f27 [.coll ⟨.obj, a0⟩] []) (fnEnds Try.prog Try.f27 (.fn 54 [.ptr 0 0]) [.cells 22 [.coll ⟨.obj, attach_firstsF a0⟩]]) := by
  refine Tr_tree (kok _ _ _ _ _ _) (E := E_attach_firsts) (L := noLoops) 60 9999 LoopsOk.none (attach_firstsR a0) (by kernel_rfl) (by kernel_rfl) (by kernel_rfl) ?_
  unfold attach_firstsR
  exact ⟨trivial, .inl (by kernel_rfl), by kernel_rfl⟩
noncomputable def attach_firsts_fact : Fact Try.prog := factOf 27 Try.f27 (by kernel_rfl) rfl (by kernel_rfl) [.c (.coll .obj)] [] false (fun t u => .fn 54 [.ptr 0 0]) (fun t u => [.cells 22 [.coll ⟨.obj, attach_firstsF t.1⟩]]) (fun t u => [])
  (nofun) (fun t u => by kernel_rfl) (fun t u => by kernel_rfl) (fun t u h => attach_firstsF_tr t.1 )
noncomputable def E_object_Key : Env := envOf (P := Try.prog) [] [] [] ckf
def object_KeyF (a0 : XObj) : XKey :=
  (⟨a0.kind, a0.name⟩ : XKey)
def object_KeyR (a0 : XObj) : RT :=
  (.leaf .ret ⟨slots 8 [(2, .ptr 0 0)], [.cells 84 [.int .u8 a0.kind, .str a0.name]]⟩ [1])
theorem object_KeyF_tr (a0 : XObj)  : Tr Try.prog 0 (bodyOf Try.f55) (fnBegins Try.f55 [.agg (oc a0)] []) (fnEnds Try.prog Try.f55 (.agg [.int .u8 ((object_KeyF a0).kind), .str ((object_KeyF a0).name)]) []) := by
  refine Tr_tree (kok _ _ _ _ _ _) (E := E_object_Key) (L := noLoops) 60 9999 LoopsOk.none (object_KeyR a0) (by kernel_rfl) (by kernel_rfl) (by kernel_rfl) ?_
  unfold object_KeyR
  exact ⟨trivial, .inl (by kernel_rfl), by kernel_rfl⟩
noncomputable def object_Key_fact : Fact Try.prog := factOf 55 Try.f55 (by kernel_rfl) rfl (by kernel_rfl) [.st .obj] [] true (fun t u => .agg [.int .u8 ((object_KeyF t.1).kind), .str ((object_KeyF t.1).name)]) (fun t u => []) (fun t u => [])
  (fun _ _ _ => rfl) (fun t u => by kernel_rfl) (fun t u => by kernel_rfl) (fun t u h => object_KeyF_tr t.1 )
noncomputable def E_attach_get_r : Env := envOf (P := Try.prog) [] [] [] ckf
def attach_get_rF (a1 : XObj) (b1 : Int) (b2 : ByteArray) (b3 : XObj) (b4 : Bool) : Bool :=
  cond (cond (a1.kind == b1) (decide (a1.name = b2)) false)
    true
    false
def attach_get_rQ (a1 : XObj) (b1 : Int) (b2 : ByteArray) (b3 : XObj) (b4 : Bool) : RT :=
  (.leaf .normal ⟨slots 24 [(4, .ptr 1 0), (5, .ptr 2 0), (6, .ptr 3 0), (7, .ptr 4 0), (8, .ptr 5 0)], [.dead, .cells 33 [.int .u8 b1], .cells 9 [.str b2], .cells 37 (oc b3), .cells 4 [.bool b4], .cells 37 (oc a1)]⟩ [])
def attach_get_rR (a1 : XObj) (b1 : Int) (b2 : ByteArray) (b3 : XObj) (b4 : Bool) : RT :=
  (.ask (cond (a1.kind == b1) (decide (a1.name = b2)) false)
    (.leaf .ret ⟨slots 24 [], [.dead, .cells 33 [.int .u8 b1], .cells 9 [.str b2], .cells 37 (oc a1), .cells 4 [.bool true]]⟩ [])
    (.leaf .normal ⟨slots 24 [], [.dead, .cells 33 [.int .u8 b1], .cells 9 [.str b2], .cells 37 (oc b3), .cells 4 [.bool b4]]⟩ []))
theorem attach_get_r_tr (a1 : XObj) (b1 : Int) (b2 : ByteArray) (b3 : XObj) (b4 : Bool)  : Tr Try.prog 5 (Globs.site 0).2.1 ⟨slots 24 [(4, .ptr 1 0), (5, .ptr 2 0), (6, .ptr 3 0), (7, .ptr 4 0), (11, .agg (oc a1))], .dead :: [.cells 33 [.int .u8 b1], .cells 9 [.str b2], .cells 37 (oc b3), .cells 4 [.bool b4]]⟩ (fun e s1 => e = .normal ∧ Tr Try.prog 5 (Globs.site 0).2.2 s1 (rdEnds (attach_get_rF a1 b1 b2 b3 b4) .ret [.cells 33 [.int .u8 b1], .cells 9 [.str b2], .cells 37 (oc a1), .cells 4 [.bool true]] .normal [.cells 33 [.int .u8 b1], .cells 9 [.str b2], .cells 37 (oc b3), .cells 4 [.bool b4]])) := by
  refine Tr_tree (kok _ _ _ _ _ _) (E := E_attach_get_r) (L := noLoops) 60 9999 LoopsOk.none (attach_get_rQ a1 b1 b2 b3 b4) (by kernel_rfl) (by kernel_rfl) (by kernel_rfl) ?_
  unfold attach_get_rQ
  refine ⟨rfl, ?_⟩
  refine Tr_tree (kok _ _ _ _ _ _) (E := E_attach_get_r) (L := noLoops) 60 9999 LoopsOk.none (attach_get_rR a1 b1 b2 b3 b4) (by kernel_rfl) (by kernel_rfl) (by kernel_rfl) ?_
  unfold attach_get_rR
  refine ⟨fun h0 => ?_, fun h0 => ?_⟩
  · have hF : attach_get_rF a1 b1 b2 b3 b4 = true := by first | exact (cond_t h0 rfl) | simp only [attach_get_rF, h0, cond_true, cond_false]
    exact .inl ⟨rfl, (by rw [hF]), by first | (rw [hF]; kernel_rfl) | kernel_rfl⟩
  · have hF : attach_get_rF a1 b1 b2 b3 b4 = false := by first | exact (cond_f h0 rfl) | simp only [attach_get_rF, h0, cond_true, cond_false]
    exact .inr ⟨rfl, (by rw [hF]), by first | (rw [hF]; kernel_rfl) | kernel_rfl⟩
noncomputable def attach_get_r_fact : FactY Try.prog := factY 0 [.st .obj] (cpsOf 24 [(4, .ptr 1 0), (5, .ptr 2 0), (6, .ptr 3 0), (7, .ptr 4 0)]) [.cells 33 [.int .u8], .cells 9 [.str], .st 37 .obj, .cells 4 [.bool]] (fun t u => attach_get_rF t.2.1 u.2.1.1 u.2.2.1.1 u.2.2.2.1 u.2.2.2.2.1.1) .ret .normal (some (.ret)) none (fun t u => [.cells 33 [.int .u8 u.2.1.1], .cells 9 [.str u.2.2.1.1], .cells 37 (oc t.2.1), .cells 4 [.bool true]]) (fun t u => [.cells 33 [.int .u8 u.2.1.1], .cells 9 [.str u.2.2.1.1], .cells 37 (oc u.2.2.2.1), .cells 4 [.bool u.2.2.2.2.1.1]]) (fun t u => []) rfl rfl
  (fun t u => by kernel_rfl) (fun t => by kernel_rfl) (fun t u => by kernel_rfl) (fun t u => by kernel_rfl) (fun t u => by kernel_rfl) (fun t u => slots 24 [(4, .ptr 1 0), (5, .ptr 2 0), (6, .ptr 3 0), (7, .ptr 4 0), (11, .agg (oc t.2.1))]) (fun t u => by kernel_rfl) (fun t u h => attach_get_r_tr t.2.1 u.2.1.1 u.2.2.1.1 u.2.2.2.1 u.2.2.2.2.1.1 )
noncomputable def E_attach_get_it : Env := envOf (P := Try.prog) [object_Key_fact] [] [] ckf false [attach_get_r_fact]
def attach_get_itLF (a1 : Int) (a2 : ByteArray) : List XObj → List (XKey × Bool) → Bool × XObj
  | [], v8 => (false, default)
  | o :: r, v8 => cond (!((mget (k := .key) (v := .bool) v8 (object_KeyF o)).getD default))
    (cond (attach_get_rF o a1 a2 (default : XObj) false)
      (true, o)
      (attach_get_itLF a1 a2 r (mset (k := .key) (v := .bool) v8 (object_KeyF o) true)))
    (attach_get_itLF a1 a2 r (mset (k := .key) (v := .bool) v8 (object_KeyF o) true))
def attach_get_itLS (a0 : List XObj) (a1 : Int) (a2 : ByteArray) (i : Nat) (v8 : List (XKey × Bool)) : St :=
  ⟨slots 29 [(0, .yld 5), (3, .map 6), (8, .coll ⟨.obj, attach_firstsF a0⟩), (9, .int .i64 ((attach_firstsF a0).length : Int)), (10, .int .i64 (i : Int))], [.cells 33 [.int .u8 a1], .cells 9 [.str a2], .cells 37 [.int .u8 0, .str (⟨#[]⟩ : ByteArray), .int .u64 0, .int .u64 0, .bool false, .bool false, .str (⟨#[]⟩ : ByteArray), .int .i64 0, .int .i64 0, .int .u8 0, .bool false, .bool false, .str (⟨#[]⟩ : ByteArray), .str (⟨#[]⟩ : ByteArray), .str (⟨#[]⟩ : ByteArray), .str (⟨#[]⟩ : ByteArray), .str (⟨#[]⟩ : ByteArray), .int .u8 0, .int .u64 0, .int .u64 0], .cells 4 [.bool false], .cells 22 [.coll ⟨.obj, attach_firstsF a0⟩], .loop 0 (slots 24 [(4, .ptr 0 0), (5, .ptr 1 0), (6, .ptr 2 0), (7, .ptr 3 0)]) none, .map ⟨.key, .bool, v8⟩]⟩
def attach_get_itLR (a0 : List XObj) (a1 : Int) (a2 : ByteArray) (i : Nat) (v8 : List (XKey × Bool)) : RT :=
  (.ask (decide ((i : Int) < ((attach_firstsF a0).length : Int)))
    (.need [0 ≤ (i : Int) ∧ (i : Int) < ((attach_firstsF a0).length : Int)]
      (.ask (!((mget (k := .key) (v := .bool) v8 (object_KeyF ((attach_firstsF a0).getD i default))).getD default))
        (.ask (attach_get_rF ((attach_firstsF a0).getD i default) a1 a2 (default : XObj) false)
          (.ask true
            (.leaf .ret ⟨slots 29 [], [.cells 33 [.int .u8 a1], .cells 9 [.str a2], .cells 37 (oc ((attach_firstsF a0).getD i default)), .cells 4 [.bool true], .cells 22 [.coll ⟨.obj, attach_firstsF a0⟩], .loop 0 (slots 24 [(4, .ptr 0 0), (5, .ptr 1 0), (6, .ptr 2 0), (7, .ptr 3 0)]) (some (.ret))]⟩ [])
            .fail)
          (.ask false
            .fail
            (.leaf .normal ⟨slots 29 [(0, .yld 5), (3, .map 6), (8, .coll ⟨.obj, attach_firstsF a0⟩), (9, .int .i64 ((attach_firstsF a0).length : Int)), (10, .int .i64 (IntKind.i64.wrap ((i : Int) + (1 : Int))))], [.cells 33 [.int .u8 a1], .cells 9 [.str a2], .cells 37 [.int .u8 0, .str (⟨#[]⟩ : ByteArray), .int .u64 0, .int .u64 0, .bool false, .bool false, .str (⟨#[]⟩ : ByteArray), .int .i64 0, .int .i64 0, .int .u8 0, .bool false, .bool false, .str (⟨#[]⟩ : ByteArray), .str (⟨#[]⟩ : ByteArray), .str (⟨#[]⟩ : ByteArray), .str (⟨#[]⟩ : ByteArray), .str (⟨#[]⟩ : ByteArray), .int .u8 0, .int .u64 0, .int .u64 0], .cells 4 [.bool false], .cells 22 [.coll ⟨.obj, attach_firstsF a0⟩], .loop 0 (slots 24 [(4, .ptr 0 0), (5, .ptr 1 0), (6, .ptr 2 0), (7, .ptr 3 0)]) none, .map ⟨.key, .bool, (mset (k := .key) (v := .bool) v8 (object_KeyF ((attach_firstsF a0).getD i default)) true)⟩]⟩ [])))
        (.ask false
          .fail
          (.leaf .normal ⟨slots 29 [(0, .yld 5), (3, .map 6), (8, .coll ⟨.obj, attach_firstsF a0⟩), (9, .int .i64 ((attach_firstsF a0).length : Int)), (10, .int .i64 (IntKind.i64.wrap ((i : Int) + (1 : Int))))], [.cells 33 [.int .u8 a1], .cells 9 [.str a2], .cells 37 [.int .u8 0, .str (⟨#[]⟩ : ByteArray), .int .u64 0, .int .u64 0, .bool false, .bool false, .str (⟨#[]⟩ : ByteArray), .int .i64 0, .int .i64 0, .int .u8 0, .bool false, .bool false, .str (⟨#[]⟩ : ByteArray), .str (⟨#[]⟩ : ByteArray), .str (⟨#[]⟩ : ByteArray), .str (⟨#[]⟩ : ByteArray), .str (⟨#[]⟩ : ByteArray), .int .u8 0, .int .u64 0, .int .u64 0], .cells 4 [.bool false], .cells 22 [.coll ⟨.obj, attach_firstsF a0⟩], .loop 0 (slots 24 [(4, .ptr 0 0), (5, .ptr 1 0), (6, .ptr 2 0), (7, .ptr 3 0)]) none, .map ⟨.key, .bool, (mset (k := .key) (v := .bool) v8 (object_KeyF ((attach_firstsF a0).getD i default)) true)⟩]⟩ []))))
    (.leaf (.exit 0) ⟨slots 29 [], [.cells 33 [.int .u8 a1], .cells 9 [.str a2], .cells 37 [.int .u8 0, .str (⟨#[]⟩ : ByteArray), .int .u64 0, .int .u64 0, .bool false, .bool false, .str (⟨#[]⟩ : ByteArray), .int .i64 0, .int .i64 0, .int .u8 0, .bool false, .bool false, .str (⟨#[]⟩ : ByteArray), .str (⟨#[]⟩ : ByteArray), .str (⟨#[]⟩ : ByteArray), .str (⟨#[]⟩ : ByteArray), .str (⟨#[]⟩ : ByteArray), .int .u8 0, .int .u64 0, .int .u64 0], .cells 4 [.bool false], .cells 22 [.coll ⟨.obj, attach_firstsF a0⟩], .loop 0 (slots 24 [(4, .ptr 0 0), (5, .ptr 1 0), (6, .ptr 2 0), (7, .ptr 3 0)]) none]⟩ []))
def attach_get_itLT (a0 : List XObj) (a1 : Int) (a2 : ByteArray) (i : Nat) (v8 : List (XKey × Bool)) : Tree :=
  .ask ((attach_get_itLF a1 a2 ((attach_firstsF a0).drop i) v8).1) (.leaf .ret ⟨slots 29 [], [.cells 33 [.int .u8 a1], .cells 9 [.str a2], .cells 37 (oc ((attach_get_itLF a1 a2 ((attach_firstsF a0).drop i) v8).2)), .cells 4 [.bool true], .cells 22 [.coll ⟨.obj, attach_firstsF a0⟩], .loop 0 (slots 24 [(4, .ptr 0 0), (5, .ptr 1 0), (6, .ptr 2 0), (7, .ptr 3 0)]) (some (.ret))]⟩) (.leaf (.exit 0) ⟨slots 29 [], [.cells 33 [.int .u8 a1], .cells 9 [.str a2], .cells 37 [.int .u8 0, .str (⟨#[]⟩ : ByteArray), .int .u64 0, .int .u64 0, .bool false, .bool false, .str (⟨#[]⟩ : ByteArray), .int .i64 0, .int .i64 0, .int .u8 0, .bool false, .bool false, .str (⟨#[]⟩ : ByteArray), .str (⟨#[]⟩ : ByteArray), .str (⟨#[]⟩ : ByteArray), .str (⟨#[]⟩ : ByteArray), .str (⟨#[]⟩ : ByteArray), .int .u8 0, .int .u64 0, .int .u64 0], .cells 4 [.bool false], .cells 22 [.coll ⟨.obj, attach_firstsF a0⟩], .loop 0 (slots 24 [(4, .ptr 0 0), (5, .ptr 1 0), (6, .ptr 2 0), (7, .ptr 3 0)]) none]⟩)
theorem attach_get_itL_loop (a0 : List XObj) (a1 : Int) (a2 : ByteArray) (hp0 : a0.length < 4611686018427387904) (hlen : (attach_firstsF a0).length < 4611686018427387904) (z : { z : Nat × (List (XKey × Bool)) // z.1 ≤ (attach_firstsF a0).length }) (Q : Exit → St → Prop) (h : (attach_get_itLT a0 a1 a2 z.1.1 z.1.2).All Q) : Tr Try.prog 6 (.loop (loopAt Try.f54 0)) (attach_get_itLS a0 a1 a2 z.1.1 z.1.2) Q := by
  refine Tr_loopT (kok _ _ _ _ _ _) (E := E_attach_get_it) (ι := { z : Nat × (List (XKey × Bool)) // z.1 ≤ (attach_firstsF a0).length }) 60 0 (fun _ => noLoops) (fun z => attach_get_itLS a0 a1 a2 z.1.1 z.1.2) (fun z => attach_get_itLT a0 a1 a2 z.1.1 z.1.2) (fun z => attach_get_itLR a0 a1 a2 z.1.1 z.1.2) (fun z => (attach_firstsF a0).length - z.1.1) (fun _ => LoopsOk.none) (fun z => by obtain ⟨⟨i, v8⟩, hi⟩ := z; kernel_rfl) (fun z => by obtain ⟨⟨i, v8⟩, hi⟩ := z; kernel_rfl) (fun z => by obtain ⟨⟨i, v8⟩, hi⟩ := z; kernel_rfl) ?_ z Q h
  rintro ⟨⟨i, v8⟩, hi⟩ Q hT
  replace hT : (attach_get_itLT a0 a1 a2 i v8).All Q := hT
  replace hi : i ≤ (attach_firstsF a0).length := hi
  show (attach_get_itLR a0 a1 a2 i v8).All _
  unfold attach_get_itLR
  refine ⟨fun h0 => ?_, fun h0 => ?_⟩
  · have hlt : i < (attach_firstsF a0).length := by simpa using h0
    have hd := drop_getD hlt
    have hw := wrap_succ (i := i) (by omega)
    refine ⟨need_cons (by first | assumption | omega | (intro; omega) | (simp only [decide_eq_true_eq, decide_eq_false_iff_not, Bool.cond_false_right, Bool.cond_true_right, Bool.cond_true_left, Bool.cond_false_left, Bool.and_eq_true, Bool.or_eq_true, Bool.not_eq_true', bytesLim, maxLen, List.length_cons, List.length_nil, List.length_append, byteSize_lit] at *; omega) | (intro; simp only [decide_eq_true_eq, decide_eq_false_iff_not, Bool.cond_false_right, Bool.cond_true_right, Bool.cond_true_left, Bool.cond_false_left, Bool.and_eq_true, Bool.or_eq_true, Bool.not_eq_true', bytesLim, maxLen, List.length_cons, List.length_nil, List.length_append, byteSize_lit] at *; omega)) (need_nil), ?_⟩
    refine ⟨fun h1 => ?_, fun h1 => ?_⟩
    · refine ⟨fun h2 => ?_, fun h2 => ?_⟩
      · refine ⟨fun h3 => ?_, fun h3 => ?_⟩
        · have hF : attach_get_itLF a1 a2 ((attach_firstsF a0).drop i) v8 = (true, ((attach_firstsF a0).getD i default)) := by rw [hd]; first | exact (cond_t h1 (cond_t h2 (cond_t h3 rfl))) | simp only [attach_get_itLF, h0, h1, h2, h3, cond_true, cond_false]
          unfold attach_get_itLT at hT
          rw [hF] at hT
          exact hT.1 rfl
        · exact absurd h3 (by simp)
      · refine ⟨fun h3 => ?_, fun h3 => ?_⟩
        · exact absurd h3 (by simp)
        · have hF : attach_get_itLF a1 a2 ((attach_firstsF a0).drop i) v8 = attach_get_itLF a1 a2 ((attach_firstsF a0).drop (i + 1)) (mset (k := .key) (v := .bool) v8 (object_KeyF ((attach_firstsF a0).getD i default)) true) := by rw [hd]; first | exact (cond_t h1 (cond_f h2 (cond_f h3 rfl))) | simp only [attach_get_itLF, h0, h1, h2, h3, cond_true, cond_false]
          refine ⟨⟨((i + 1), (mset (k := .key) (v := .bool) v8 (object_KeyF ((attach_firstsF a0).getD i default)) true)), by show (i + 1) ≤ (attach_firstsF a0).length; omega⟩, by show (attach_firstsF a0).length - (i + 1) < (attach_firstsF a0).length - i; omega, ?_, ?_⟩
          · show _ = attach_get_itLS a0 a1 a2 (i + 1) (mset (k := .key) (v := .bool) v8 (object_KeyF ((attach_firstsF a0).getD i default)) true)
            unfold attach_get_itLS
            simp only [hw]
          · show (attach_get_itLT a0 a1 a2 (i + 1) (mset (k := .key) (v := .bool) v8 (object_KeyF ((attach_firstsF a0).getD i default)) true)).All Q
            unfold attach_get_itLT at hT ⊢
            rw [hF] at hT
            exact hT
    · refine ⟨fun h2 => ?_, fun h2 => ?_⟩
      · exact absurd h2 (by simp)
      · have hF : attach_get_itLF a1 a2 ((attach_firstsF a0).drop i) v8 = attach_get_itLF a1 a2 ((attach_firstsF a0).drop (i + 1)) (mset (k := .key) (v := .bool) v8 (object_KeyF ((attach_firstsF a0).getD i default)) true) := by rw [hd]; first | exact (cond_f h1 (cond_f h2 rfl)) | simp only [attach_get_itLF, h0, h1, h2, cond_true, cond_false]
        refine ⟨⟨((i + 1), (mset (k := .key) (v := .bool) v8 (object_KeyF ((attach_firstsF a0).getD i default)) true)), by show (i + 1) ≤ (attach_firstsF a0).length; omega⟩, by show (attach_firstsF a0).length - (i + 1) < (attach_firstsF a0).length - i; omega, ?_, ?_⟩
        · show _ = attach_get_itLS a0 a1 a2 (i + 1) (mset (k := .key) (v := .bool) v8 (object_KeyF ((attach_firstsF a0).getD i default)) true)
          unfold attach_get_itLS
          simp only [hw]
        · show (attach_get_itLT a0 a1 a2 (i + 1) (mset (k := .key) (v := .bool) v8 (object_KeyF ((attach_firstsF a0).getD i default)) true)).All Q
          unfold attach_get_itLT at hT ⊢
          rw [hF] at hT
          exact hT
  · have hge : ¬ i < (attach_firstsF a0).length := by simpa using h0
    have hd : (attach_firstsF a0).drop i = [] := List.drop_eq_nil_of_le (by omega)
    have hF : attach_get_itLF a1 a2 ((attach_firstsF a0).drop i) v8 = (false, default) := by rw [hd]; first | exact rfl | simp only [attach_get_itLF, h0, cond_true, cond_false]
    unfold attach_get_itLT at hT
    rw [hF] at hT
    exact hT.2 rfl
def attach_get_itS (a0 : List XObj) (a1 : Int) (a2 : ByteArray) : St :=
  ⟨slots 24 [(4, .ptr 0 0), (5, .ptr 1 0), (6, .ptr 2 0), (7, .ptr 3 0), (10, .fn 54 [.ptr 4 0])], [.cells 33 [.int .u8 a1], .cells 9 [.str a2], .cells 37 [.int .u8 0, .str (⟨#[]⟩ : ByteArray), .int .u64 0, .int .u64 0, .bool false, .bool false, .str (⟨#[]⟩ : ByteArray), .int .i64 0, .int .i64 0, .int .u8 0, .bool false, .bool false, .str (⟨#[]⟩ : ByteArray), .str (⟨#[]⟩ : ByteArray), .str (⟨#[]⟩ : ByteArray), .str (⟨#[]⟩ : ByteArray), .str (⟨#[]⟩ : ByteArray), .int .u8 0, .int .u64 0, .int .u64 0], .cells 4 [.bool false], .cells 22 [.coll ⟨.obj, attach_firstsF a0⟩]]⟩
def attach_get_itF (a0 : List XObj) (a1 : Int) (a2 : ByteArray) : Bool :=
  cond ((attach_get_itLF a1 a2 (attach_firstsF a0) []).1)
    true
    false
def attach_get_itR (a0 : List XObj) (a1 : Int) (a2 : ByteArray) : RT :=
  (.ask ((attach_get_itLF a1 a2 (attach_firstsF a0) []).1)
    (.leaf .ret ⟨slots 29 [], [.cells 33 [.int .u8 a1], .cells 9 [.str a2], .cells 37 (oc ((attach_get_itLF a1 a2 (attach_firstsF a0) []).2)), .cells 4 [.bool true], .cells 22 [.coll ⟨.obj, attach_firstsF a0⟩], .loop 0 (slots 24 [(4, .ptr 0 0), (5, .ptr 1 0), (6, .ptr 2 0), (7, .ptr 3 0)]) (some (.ret))]⟩ [])
    (.leaf .normal ⟨slots 29 [], [.cells 33 [.int .u8 a1], .cells 9 [.str a2], .cells 37 [.int .u8 0, .str (⟨#[]⟩ : ByteArray), .int .u64 0, .int .u64 0, .bool false, .bool false, .str (⟨#[]⟩ : ByteArray), .int .i64 0, .int .i64 0, .int .u8 0, .bool false, .bool false, .str (⟨#[]⟩ : ByteArray), .str (⟨#[]⟩ : ByteArray), .str (⟨#[]⟩ : ByteArray), .str (⟨#[]⟩ : ByteArray), .str (⟨#[]⟩ : ByteArray), .int .u8 0, .int .u64 0, .int .u64 0], .cells 4 [.bool false], .cells 22 [.coll ⟨.obj, attach_firstsF a0⟩], .loop 0 (slots 24 [(4, .ptr 0 0), (5, .ptr 1 0), (6, .ptr 2 0), (7, .ptr 3 0)]) none]⟩ []))
def attach_get_itT (a0 : List XObj) (a1 : Int) (a2 : ByteArray) : Tree :=
  .ask (attach_get_itF a0 a1 a2) (.leaf .ret ⟨slots 24 [(4, .ptr 0 0), (5, .ptr 1 0), (6, .ptr 2 0), (7, .ptr 3 0), (10, .fn 54 [.ptr 4 0])], [.cells 33 [.int .u8 a1], .cells 9 [.str a2], .cells 37 (oc ((attach_get_itLF a1 a2 (attach_firstsF a0) []).2)), .cells 4 [.bool true], .cells 22 [.coll ⟨.obj, attach_firstsF a0⟩], .dead]⟩) (.leaf .normal ⟨slots 24 [(4, .ptr 0 0), (5, .ptr 1 0), (6, .ptr 2 0), (7, .ptr 3 0), (10, .fn 54 [.ptr 4 0])], [.cells 33 [.int .u8 a1], .cells 9 [.str a2], .cells 37 [.int .u8 0, .str (⟨#[]⟩ : ByteArray), .int .u64 0, .int .u64 0, .bool false, .bool false, .str (⟨#[]⟩ : ByteArray), .int .i64 0, .int .i64 0, .int .u8 0, .bool false, .bool false, .str (⟨#[]⟩ : ByteArray), .str (⟨#[]⟩ : ByteArray), .str (⟨#[]⟩ : ByteArray), .str (⟨#[]⟩ : ByteArray), .str (⟨#[]⟩ : ByteArray), .int .u8 0, .int .u64 0, .int .u64 0], .cells 4 [.bool false], .cells 22 [.coll ⟨.obj, attach_firstsF a0⟩], .dead]⟩)
theorem attach_get_it_rg (a0 : List XObj) (a1 : Int) (a2 : ByteArray) (hp0 : a0.length < 4611686018427387904) (Q : Exit → St → Prop) (hT : (attach_get_itT a0 a1 a2).All Q) : Tr Try.prog 0 (loopAt Try.f26 0) (attach_get_itS a0 a1 a2) Q := by
  have hc : loopAt Try.f26 0 = .rangeFunc (.tmp 10) (Globs.site 0).1 (Globs.site 0).2.1 (Globs.site 0).2.2 := by kernel_rfl
  rw [hc]
  refine Tr_range (site := 0) (gf := 54) (fn := Try.f54) (c := bodyOf Try.f54) (cap := [.ptr 4 0]) 5 [4, 5, 6, 7] (slots 24 [(4, .ptr 0 0), (5, .ptr 1 0), (6, .ptr 2 0), (7, .ptr 3 0)]) [.yld 5, .ptr 4 0] [.cells 33 [.int .u8 a1], .cells 9 [.str a2], .cells 37 [.int .u8 0, .str (⟨#[]⟩ : ByteArray), .int .u64 0, .int .u64 0, .bool false, .bool false, .str (⟨#[]⟩ : ByteArray), .int .i64 0, .int .i64 0, .int .u8 0, .bool false, .bool false, .str (⟨#[]⟩ : ByteArray), .str (⟨#[]⟩ : ByteArray), .str (⟨#[]⟩ : ByteArray), .str (⟨#[]⟩ : ByteArray), .str (⟨#[]⟩ : ByteArray), .int .u8 0, .int .u64 0, .int .u64 0], .cells 4 [.bool false], .cells 22 [.coll ⟨.obj, attach_firstsF a0⟩], .loop 0 (slots 24 [(4, .ptr 0 0), (5, .ptr 1 0), (6, .ptr 2 0), (7, .ptr 3 0)]) none] rfl (by kernel_rfl) (by kernel_rfl) rfl (by kernel_rfl) (by kernel_rfl) (by kernel_rfl) (by kernel_rfl) (by kernel_rfl) (by kernel_rfl) (by kernel_rfl) (by kernel_rfl) ?_
  refine Tr_tree (kok _ _ _ _ _ _) (E := E_attach_get_it) (L := (loopsOf [(0, attach_get_itLS a0 a1 a2 0 [], [], attach_get_itLT a0 a1 a2 0 [])])) 60 9999 (LoopsOk.one (g := loopAt Try.f54 0) (b := 0) (by kernel_rfl) (by kernel_rfl) (by kernel_rfl) (by kernel_rfl) (fun Q h => attach_get_itL_loop a0 a1 a2 hp0 (by first | assumption | omega) ⟨(0, []), by first | exact Nat.zero_le _ | (show 0 ≤ (attach_firstsF a0).length; omega) | (show 0 ≤ (attach_firstsF a0).length; exact ⟨Nat.zero_le _, by assumption⟩) | (show 0 ≤ (attach_firstsF a0).length; simp)⟩ Q h)) (attach_get_itR a0 a1 a2) (by kernel_rfl) (by kernel_rfl) (by kernel_rfl) ?_
  unfold attach_get_itR
  refine ⟨fun h0 => ?_, fun h0 => ?_⟩
  · have hF : attach_get_itF a0 a1 a2 = true := by first | exact (cond_t h0 rfl) | simp only [attach_get_itF, h0, cond_true, cond_false]
    unfold attach_get_itT at hT
    rw [hF] at hT
    exact ⟨⟨trivial, .tup [], by kernel_rfl⟩, (some (.ret)), [.cells 33 [.int .u8 a1], .cells 9 [.str a2], .cells 37 (oc ((attach_get_itLF a1 a2 (attach_firstsF a0) []).2)), .cells 4 [.bool true], .cells 22 [.coll ⟨.obj, attach_firstsF a0⟩], .dead], by kernel_rfl, rfl, by kernel_rfl, by kernel_rfl, by kernel_rfl, by kernel_rfl, hT.1 rfl⟩
  · have hF : attach_get_itF a0 a1 a2 = false := by first | exact (cond_f h0 rfl) | simp only [attach_get_itF, h0, cond_true, cond_false]
    unfold attach_get_itT at hT
    rw [hF] at hT
    exact ⟨⟨trivial, .tup [], by kernel_rfl⟩, none, [.cells 33 [.int .u8 a1], .cells 9 [.str a2], .cells 37 [.int .u8 0, .str (⟨#[]⟩ : ByteArray), .int .u64 0, .int .u64 0, .bool false, .bool false, .str (⟨#[]⟩ : ByteArray), .int .i64 0, .int .i64 0, .int .u8 0, .bool false, .bool false, .str (⟨#[]⟩ : ByteArray), .str (⟨#[]⟩ : ByteArray), .str (⟨#[]⟩ : ByteArray), .str (⟨#[]⟩ : ByteArray), .str (⟨#[]⟩ : ByteArray), .int .u8 0, .int .u64 0, .int .u64 0], .cells 4 [.bool false], .cells 22 [.coll ⟨.obj, attach_firstsF a0⟩], .dead], by kernel_rfl, rfl, by kernel_rfl, by kernel_rfl, by kernel_rfl, by kernel_rfl, hT.2 rfl⟩
noncomputable def E_attach_get : Env := envOf (P := Try.prog) [attach_firsts_fact] [] [] ckf
def attach_getF (a0 : List XObj) (a1 : Int) (a2 : ByteArray) : XObj × Bool :=
  cond (attach_get_itF a0 a1 a2)
    (((attach_get_itLF a1 a2 (attach_firstsF a0) []).2), true)
    ((default : XObj), false)
def attach_getR (a0 : List XObj) (a1 : Int) (a2 : ByteArray) : RT :=
  (.ask (attach_get_itF a0 a1 a2)
    (.leaf .ret ⟨slots 24 [(6, .ptr 0 0), (7, .ptr 1 0)], [.cells 37 (oc ((attach_get_itLF a1 a2 (attach_firstsF a0) []).2)), .cells 4 [.bool true]]⟩ [2, 3])
    (.leaf .ret ⟨slots 24 [(6, .ptr 0 0), (7, .ptr 1 0)], [.cells 37 [.int .u8 0, .str (⟨#[]⟩ : ByteArray), .int .u64 0, .int .u64 0, .bool false, .bool false, .str (⟨#[]⟩ : ByteArray), .int .i64 0, .int .i64 0, .int .u8 0, .bool false, .bool false, .str (⟨#[]⟩ : ByteArray), .str (⟨#[]⟩ : ByteArray), .str (⟨#[]⟩ : ByteArray), .str (⟨#[]⟩ : ByteArray), .str (⟨#[]⟩ : ByteArray), .int .u8 0, .int .u64 0, .int .u64 0], .cells 4 [.bool false]]⟩ [2, 3]))
theorem attach_getF_tr (a0 : List XObj) (a1 : Int) (a2 : ByteArray) (hp0 : a0.length < 4611686018427387904) : Tr Try.prog 0 (bodyOf Try.f26) (fnBegins Try.f26 [.coll ⟨.obj, a0⟩, .int .u8 a1, .str a2] []) (fnEnds Try.prog Try.f26 (.tup [.agg (oc ((attach_getF a0 a1 a2).1)), .bool ((attach_getF a0 a1 a2).2)]) []) := by
  refine Tr_tree (kok _ _ _ _ _ _) (E := E_attach_get) (L := (loopsOf [(0, attach_get_itS a0 a1 a2, [], attach_get_itT a0 a1 a2)])) 60 9999 (LoopsOk.oneR (g := loopAt Try.f26 0) (b := 0) (by kernel_rfl) (by kernel_rfl) (by kernel_rfl) (by kernel_rfl) (fun Q h => attach_get_it_rg a0 a1 a2 hp0 Q h)) (attach_getR a0 a1 a2) (by kernel_rfl) (by kernel_rfl) (by kernel_rfl) ?_
  unfold attach_getR
  refine ⟨fun h0 => ?_, fun h0 => ?_⟩
  · have hF : attach_getF a0 a1 a2 = (((attach_get_itLF a1 a2 (attach_firstsF a0) []).2), true) := by first | exact (cond_t h0 rfl) | simp only [attach_getF, h0, cond_true, cond_false]
    exact ⟨trivial, .inl (by first | (rw [hF]; kernel_rfl) | kernel_rfl), by first | (rw [hF]; kernel_rfl) | kernel_rfl⟩
  · have hF : attach_getF a0 a1 a2 = ((default : XObj), false) := by first | exact (cond_f h0 rfl) | simp only [attach_getF, h0, cond_true, cond_false]
    exact ⟨trivial, .inl (by first | (rw [hF]; kernel_rfl) | kernel_rfl), by first | (rw [hF]; kernel_rfl) | kernel_rfl⟩
noncomputable def attach_get_fact : Fact Try.prog := factOf 26 Try.f26 (by kernel_rfl) rfl (by kernel_rfl) [.c (.coll .obj), .c (.int .u8), .c (.str)] [] true (fun t u => .tup [.agg (oc ((attach_getF t.1 t.2.1 t.2.2.1).1)), .bool ((attach_getF t.1 t.2.1 t.2.2.1).2)]) (fun t u => []) (fun t u => [t.1.length < 4611686018427387904])
  (fun _ _ _ => rfl) (fun t u => by kernel_rfl) (fun t u => by kernel_rfl) (fun t u h => attach_getF_tr t.1 t.2.1 t.2.2.1 (h _ List.mem_cons_self))
end Go.Proofs.Ytbcnehpndoghcaa
