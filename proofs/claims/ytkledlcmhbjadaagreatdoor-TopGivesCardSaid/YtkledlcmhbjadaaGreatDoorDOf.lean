/- Bind: each once. -/
import Derived.Test.YtkledlcmhbjadaaGreatDoorDFmt
set_option linter.unusedVariables false
set_option linter.unusedSimpArgs false
set_option maxRecDepth 100000
namespace Go.Proofs.YtkledlcmhbjadaaGreatDoor
open Go Go.Eng
def ckL : List (Nat × Kind) := [(2, .int .i64), (3, .int .i64), (4, .bool), (5, .int .u8), (6, .int .u8), (9, .str), (10, .str), (11, .str), (12, .int .u64), (21, .int .i32), (26, .zone), (27, .int .u8), (28, .int .u64), (29, .int .u8), (30, .int .u8), (32, .obj), (34, .int .u8), (35, .int .u8), (37, .call), (41, .int .u8), (42, .int .i64), (48, .key), (51, .strs), (53, .vol), (98, .tgt), (101, .done), (131, .sn), (148, .int .u32), (151, .int .u64), (161, .int .i64), (171, .int .u64), (186, .int .u8), (187, .int .u8), (189, .int .i32), (190, .int .i32)]
def ckf : TypeId → Option Kind := fun t => ckL.lookup t
noncomputable def E_object_Key : Env := envOf (P := Tryz.prog) [] [] [] ckf
def object_KeyF (a0 : XObj) : XKey :=
 (⟨a0.kind, a0.name⟩ : XKey)
def object_KeyR (a0 : XObj) : RT :=
 (.leaf .ret ⟨slots 8 [(2, .ptr 0 0)], [.cells 48 [.int .u8 a0.kind, .str a0.name]]⟩ [1])
theorem object_KeyF_tr (a0 : XObj)  : Tr Tryz.prog 0 (bodyOf Tryz.f38) (fnBegins Tryz.f38 [.agg (oc a0)] []) (fnEnds Tryz.prog Tryz.f38 (.agg [.int .u8 ((object_KeyF a0).kind), .str ((object_KeyF a0).name)]) []) := by
 refine Tr_tree (kok _ _ _ _ _ _) (E := E_object_Key) (L := noLoops) 60 9999 LoopsOk.none (object_KeyR a0) (by kernel_rfl) (by kernel_rfl) (by kernel_rfl) ?_
 unfold object_KeyR
 exact ⟨trivial, .inl (by kernel_rfl), by kernel_rfl⟩
noncomputable def object_Key_fact : Fact Tryz.prog := factOf 38 Tryz.f38 (by kernel_rfl) rfl (by kernel_rfl) [.st .obj] [] true (fun t u => .agg [.int .u8 ((object_KeyF t.1).kind), .str ((object_KeyF t.1).name)]) (fun t u => []) (fun t u => [])
 (fun _ _ _ => rfl) (fun t u => by kernel_rfl) (fun t u => by kernel_rfl) (fun t u h => object_KeyF_tr t.1 )
noncomputable def E_bind_of : Env := envOf (P := Tryz.prog) [object_Key_fact] [] [] ckf
def bind_ofLF  : List XObj → List (XKey × Bool) → List XObj → List XObj
 | [], v3, v5 => v5
 | o :: r, v3, v5 => cond (!((mget (k := .key) (v := .bool) v3 (object_KeyF o)).getD default))
  (bind_ofLF r (mset (k := .key) (v := .bool) v3 (object_KeyF o) true) (v5 ++ [o]))
  (bind_ofLF r v3 v5)
def bind_ofLS (a0 : List XObj) (i : Nat) (v3 : List (XKey × Bool)) (v5 : List XObj) : St :=
 ⟨slots 31 [(2, .ptr 0 0), (3, .ptr 1 0), (4, .map 2), (9, .coll ⟨.obj, a0⟩), (10, .int .i64 (a0.length : Int)), (11, .int .i64 (i : Int))], [.cells 67 [.vec 3], .cells 67 [.vec 4], .map ⟨.key, .bool, v3⟩, .vec true ⟨.obj, []⟩, .vec true ⟨.obj, v5⟩]⟩
def bind_ofLR (a0 : List XObj) (i : Nat) (v3 : List (XKey × Bool)) (v5 : List XObj) : RT :=
 (.ask (decide ((i : Int) < (a0.length : Int)))
   (.need [0 ≤ (i : Int) ∧ (i : Int) < (a0.length : Int)]
     (.ask (!((mget (k := .key) (v := .bool) v3 (object_KeyF (a0.getD i default))).getD default))
       (.need [(v5.length + [(a0.getD i default)].length) * 192 ≤ bytesLim ∧ v5.length + [(a0.getD i default)].length ≤ maxLen]
         (.leaf .normal ⟨slots 31 [(2, .ptr 0 0), (3, .ptr 1 0), (4, .map 2), (9, .coll ⟨.obj, a0⟩), (10, .int .i64 (a0.length : Int)), (11, .int .i64 (IntKind.i64.wrap ((i : Int) + (1 : Int))))], [.cells 67 [.vec 3], .cells 67 [.vec 4], .map ⟨.key, .bool, (mset (k := .key) (v := .bool) v3 (object_KeyF (a0.getD i default)) true)⟩, .vec true ⟨.obj, []⟩, .vec true ⟨.obj, (v5 ++ [(a0.getD i default)])⟩]⟩ [0, 1, 2, 3, 8]))
       (.leaf .normal ⟨slots 31 [(2, .ptr 0 0), (3, .ptr 1 0), (4, .map 2), (9, .coll ⟨.obj, a0⟩), (10, .int .i64 (a0.length : Int)), (11, .int .i64 (IntKind.i64.wrap ((i : Int) + (1 : Int))))], [.cells 67 [.vec 3], .cells 67 [.vec 4], .map ⟨.key, .bool, v3⟩, .vec true ⟨.obj, []⟩, .vec true ⟨.obj, v5⟩]⟩ [])))
   (.leaf (.exit 0) ⟨slots 31 [(2, .ptr 0 0), (3, .ptr 1 0)], [.cells 67 [.vec 2], .cells 67 [.vec 3], .vec true ⟨.obj, []⟩, .vec true ⟨.obj, v5⟩]⟩ [0, 1, 3, 4]))
def bind_ofLT (a0 : List XObj) (i : Nat) (v3 : List (XKey × Bool)) (v5 : List XObj) : Tree :=
 .leaf (.exit 0) ⟨slots 31 [(2, .ptr 0 0), (3, .ptr 1 0)], [.cells 67 [.vec 2], .cells 67 [.vec 3], .vec true ⟨.obj, []⟩, .vec true ⟨.obj, bind_ofLF (a0.drop i) v3 v5⟩]⟩
theorem bind_ofL_loop (a0 : List XObj) (hp0 : a0.length ≤ 64) (hlen : a0.length < 4611686018427387904) (z : { z : Nat × (List (XKey × Bool)) × List XObj // z.1 ≤ a0.length ∧ z.2.2.length ≤ z.1 }) (Q : Exit → St → Prop) (h : (bind_ofLT a0 z.1.1 z.1.2.1 z.1.2.2).All Q) : Tr Tryz.prog 0 (.loop (loopAt Tryz.f13 0)) (bind_ofLS a0 z.1.1 z.1.2.1 z.1.2.2) Q := by
 refine Tr_loopT (kok _ _ _ _ _ _) (E := E_bind_of) (ι := { z : Nat × (List (XKey × Bool)) × List XObj // z.1 ≤ a0.length ∧ z.2.2.length ≤ z.1 }) 60 0 (fun _ => noLoops) (fun z => bind_ofLS a0 z.1.1 z.1.2.1 z.1.2.2) (fun z => bind_ofLT a0 z.1.1 z.1.2.1 z.1.2.2) (fun z => bind_ofLR a0 z.1.1 z.1.2.1 z.1.2.2) (fun z => a0.length - z.1.1) (fun _ => LoopsOk.none) (fun z => by obtain ⟨⟨i, v3, v5⟩, hi⟩ := z; kernel_rfl) (fun z => by obtain ⟨⟨i, v3, v5⟩, hi⟩ := z; kernel_rfl) (fun z => by obtain ⟨⟨i, v3, v5⟩, hi⟩ := z; kernel_rfl) ?_ z Q h
 rintro ⟨⟨i, v3, v5⟩, hi⟩ Q hT
 replace hT : (bind_ofLT a0 i v3 v5).All Q := hT
 replace hi : i ≤ a0.length ∧ v5.length ≤ i := hi
 show (bind_ofLR a0 i v3 v5).All _
 unfold bind_ofLR
 refine ⟨fun h0 => ?_, fun h0 => ?_⟩
 · have hlt : i < a0.length := by simpa using h0
   have hd := drop_getD hlt
   have hw := wrap_succ (i := i) (by omega)
   refine ⟨need_cons (by first | assumption | omega | (intro; omega) | (simp only [decide_eq_true_eq, decide_eq_false_iff_not, Bool.cond_false_right, Bool.cond_true_right, Bool.cond_true_left, Bool.cond_false_left, Bool.and_eq_true, Bool.or_eq_true, Bool.not_eq_true', bytesLim, maxLen, List.length_cons, List.length_nil, List.length_append, byteSize_lit] at *; omega) | (intro; simp only [decide_eq_true_eq, decide_eq_false_iff_not, Bool.cond_false_right, Bool.cond_true_right, Bool.cond_true_left, Bool.cond_false_left, Bool.and_eq_true, Bool.or_eq_true, Bool.not_eq_true', bytesLim, maxLen, List.length_cons, List.length_nil, List.length_append, byteSize_lit] at *; omega)) (need_nil), ?_⟩
   refine ⟨fun h1 => ?_, fun h1 => ?_⟩
   · refine ⟨need_cons (by first | assumption | omega | (intro; omega) | (simp only [decide_eq_true_eq, decide_eq_false_iff_not, Bool.cond_false_right, Bool.cond_true_right, Bool.cond_true_left, Bool.cond_false_left, Bool.and_eq_true, Bool.or_eq_true, Bool.not_eq_true', bytesLim, maxLen, List.length_cons, List.length_nil, List.length_append, byteSize_lit] at *; omega) | (intro; simp only [decide_eq_true_eq, decide_eq_false_iff_not, Bool.cond_false_right, Bool.cond_true_right, Bool.cond_true_left, Bool.cond_false_left, Bool.and_eq_true, Bool.or_eq_true, Bool.not_eq_true', bytesLim, maxLen, List.length_cons, List.length_nil, List.length_append, byteSize_lit] at *; omega)) (need_nil), ?_⟩
     have hF : bind_ofLF (a0.drop i) v3 v5 = bind_ofLF (a0.drop (i + 1)) (mset (k := .key) (v := .bool) v3 (object_KeyF (a0.getD i default)) true) (v5 ++ [(a0.getD i default)]) := by rw [hd]; first | exact (cond_t h1 rfl) | simp only [bind_ofLF, h0, h1, cond_true, cond_false]
     refine ⟨⟨((i + 1), (mset (k := .key) (v := .bool) v3 (object_KeyF (a0.getD i default)) true), (v5 ++ [(a0.getD i default)])), by (first | dsimp only | skip); constructor <;> (try simp only [List.length_append, List.length_cons, List.length_nil]) <;> omega⟩, by show a0.length - (i + 1) < a0.length - i; omega, ?_, ?_⟩
     · show _ = bind_ofLS a0 (i + 1) (mset (k := .key) (v := .bool) v3 (object_KeyF (a0.getD i default)) true) (v5 ++ [(a0.getD i default)])
       unfold bind_ofLS
       simp only [hw]
     · show (bind_ofLT a0 (i + 1) (mset (k := .key) (v := .bool) v3 (object_KeyF (a0.getD i default)) true) (v5 ++ [(a0.getD i default)])).All Q
       unfold bind_ofLT at hT ⊢
       rw [hF] at hT
       exact hT
   · have hF : bind_ofLF (a0.drop i) v3 v5 = bind_ofLF (a0.drop (i + 1)) v3 v5 := by rw [hd]; first | exact (cond_f h1 rfl) | simp only [bind_ofLF, h0, h1, cond_true, cond_false]
     refine ⟨⟨((i + 1), v3, v5), by (first | dsimp only | skip); constructor <;> (try simp only [List.length_append, List.length_cons, List.length_nil]) <;> omega⟩, by show a0.length - (i + 1) < a0.length - i; omega, ?_, ?_⟩
     · show _ = bind_ofLS a0 (i + 1) v3 v5
       unfold bind_ofLS
       simp only [hw]
     · show (bind_ofLT a0 (i + 1) v3 v5).All Q
       unfold bind_ofLT at hT ⊢
       rw [hF] at hT
       exact hT
 · have hge : ¬ i < a0.length := by simpa using h0
   have hd : a0.drop i = [] := List.drop_eq_nil_of_le (by omega)
   have hF : bind_ofLF (a0.drop i) v3 v5 = v5 := by rw [hd]; first | exact rfl | simp only [bind_ofLF, h0, cond_true, cond_false]
   unfold bind_ofLT at hT
   rw [hF] at hT
   exact hT
def bind_ofF (a0 : List XObj) : List XObj :=
 bind_ofLF a0 [] []
def bind_ofR (a0 : List XObj) : RT :=
 (.leaf .ret ⟨slots 31 [(2, .ptr 1 0)], [.vec true ⟨.obj, bind_ofLF a0 [] []⟩, .cells 67 [.vec 0]]⟩ [3, 0])
theorem bind_ofF_tr (a0 : List XObj) (hp0 : a0.length ≤ 64) : Tr Tryz.prog 0 (bodyOf Tryz.f13) (fnBegins Tryz.f13 [.coll ⟨.obj, a0⟩] []) (fnEnds Tryz.prog Tryz.f13 (.agg [.vec 0]) [.vec true ⟨.obj, bind_ofF a0⟩]) := by
 refine Tr_tree (kok _ _ _ _ _ _) (E := E_bind_of) (L := (loopsOf [(0, bind_ofLS a0 0 [] [], [0, 2, 4, 1, 3], bind_ofLT a0 0 [] [])])) 60 9999 (LoopsOk.one (g := loopAt Tryz.f13 0) (b := 0) (by kernel_rfl) (by kernel_rfl) (by kernel_rfl) (by kernel_rfl) (fun Q h => bind_ofL_loop a0 hp0 (by first | assumption | omega | (simp only [List.length_cons, List.length_nil, List.length_append]; omega)) ⟨(0, [], []), ⟨Nat.zero_le _, Nat.le_refl _⟩⟩ Q h)) (bind_ofR a0) (by kernel_rfl) (by kernel_rfl) (by kernel_rfl) ?_
 unfold bind_ofR
 exact ⟨trivial, .inl (by kernel_rfl), by kernel_rfl⟩
noncomputable def bind_of_fact : Fact Tryz.prog := factOf 13 Tryz.f13 (by kernel_rfl) rfl (by kernel_rfl) [.c (.coll .obj)] [] false (fun t u => .agg [.vec 0]) (fun t u => [.vec true ⟨.obj, bind_ofF t.1⟩]) (fun t u => [t.1.length ≤ 64])
 (nofun) (fun t u => by kernel_rfl) (fun t u => by kernel_rfl) (fun t u h => bind_ofF_tr t.1 (h _ List.mem_cons_self))
end Go.Proofs.YtkledlcmhbjadaaGreatDoor
