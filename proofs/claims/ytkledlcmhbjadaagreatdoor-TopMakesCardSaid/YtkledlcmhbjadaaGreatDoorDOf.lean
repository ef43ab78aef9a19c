/- Bind: each once. -/
import Derived.Test.YtkledlcmhbjadaaGreatDoorDFmt
set_option linter.unusedVariables false
set_option linter.unusedSimpArgs false
set_option maxRecDepth 100000
namespace Go.Proofs.YtkledlcmhbjadaaGreatDoor
open Go Go.Eng
def ckL : List (Nat × Kind) := [(2, .int .i64), (3, .int .i64), (4, .bool), (5, .int .u8), (6, .int .u8), (9, .str), (10, .str), (11, .str), (12, .int .u64), (21, .int .i32), (26, .zone), (27, .int .u8), (28, .int .u64), (29, .int .u8), (30, .int .u8), (32, .obj), (34, .int .u8), (35, .int .u8), (37, .call), (41, .int .u8), (42, .int .i64), (48, .key), (51, .strs), (53, .vol), (98, .tgt), (101, .done), (131, .sn), (148, .int .u32), (151, .int .u64), (161, .int .i64), (171, .int .u64), (186, .int .u8), (187, .int .u8), (189, .int .i32), (190, .int .i32)]
def ckf : TypeId → Option Kind := fun t => ckL.lookup t
noncomputable def E_object_Key : Env := Z57 (P := Tryz.prog) [] [] [] ckf
def Z4d (a0 : XObj) : XKey :=
 (⟨a0.kind, a0.name⟩ : XKey)
def object_KeyR (a0 : XObj) : RT :=
 (.leaf .ret ⟨Z9 8 [(2, .ptr 0 0)], [.cells 48 [.int .u8 a0.kind, .str a0.name]]⟩ [1])
theorem object_KeyF_tr (a0 : XObj)  : Tr Tryz.prog 0 (Z3a Tryz.f38) (Z1f Tryz.f38 [.agg (oc a0)] []) (Z4a Tryz.prog Tryz.f38 (.agg [.int .u8 ((Z4d a0).kind), .str ((Z4d a0).name)]) []) := by
 refine Z20 (kok _ _ _ _ _ _) (E := E_object_Key) (L := Z2a) 60 9999 Z14.none (object_KeyR a0) (by kernel_rfl) (by kernel_rfl) (by kernel_rfl) ?_
 unfold object_KeyR
 exact ⟨trivial, .inl (by kernel_rfl), by kernel_rfl⟩
noncomputable def Z18c : Fact Tryz.prog := Z50 38 Tryz.f38 (by kernel_rfl) rfl (by kernel_rfl) [.st .obj] [] true (fun t u => .agg [.int .u8 ((Z4d t.1).kind), .str ((Z4d t.1).name)]) (fun t u => []) (fun t u => [])
 (fun _ _ _ => rfl) (fun t u => by kernel_rfl) (fun t u => by kernel_rfl) (fun t u h => object_KeyF_tr t.1 )
noncomputable def E_bind_of : Env := Z57 (P := Tryz.prog) [Z18c] [] [] ckf
def Z73  : List XObj → List (XKey × Bool) → List XObj → List XObj
 | [], v3, v5 => v5
 | o :: r, v3, v5 => cond (!((mget (k := .key) (v := .bool) v3 (Z4d o)).getD default))
  (Z73 r (mset (k := .key) (v := .bool) v3 (Z4d o) true) (v5 ++ [o]))
  (Z73 r v3 v5)
def Z10a (a0 : List XObj) (i : Nat) (v3 : List (XKey × Bool)) (v5 : List XObj) : St :=
 ⟨Z9 31 [(2, .ptr 0 0), (3, .ptr 1 0), (4, .map 2), (9, .coll ⟨.obj, a0⟩), (10, .int .i64 (a0.length : Int)), (11, .int .i64 (i : Int))], [.cells 67 [.vec 3], .cells 67 [.vec 4], .map ⟨.key, .bool, v3⟩, .vec true ⟨.obj, []⟩, .vec true ⟨.obj, v5⟩]⟩
def bind_ofLR (a0 : List XObj) (i : Nat) (v3 : List (XKey × Bool)) (v5 : List XObj) : RT :=
 (.ask (decide ((i : Int) < (a0.length : Int)))
   (.need [0 ≤ (i : Int) ∧ (i : Int) < (a0.length : Int)]
     (.ask (!((mget (k := .key) (v := .bool) v3 (Z4d (a0.getD i default))).getD default))
       (.need [(v5.length + [(a0.getD i default)].length) * 192 ≤ Z35 ∧ v5.length + [(a0.getD i default)].length ≤ maxLen]
         (.leaf .normal ⟨Z9 31 [(2, .ptr 0 0), (3, .ptr 1 0), (4, .map 2), (9, .coll ⟨.obj, a0⟩), (10, .int .i64 (a0.length : Int)), (11, .int .i64 (IntKind.i64.wrap ((i : Int) + (1 : Int))))], [.cells 67 [.vec 3], .cells 67 [.vec 4], .map ⟨.key, .bool, (mset (k := .key) (v := .bool) v3 (Z4d (a0.getD i default)) true)⟩, .vec true ⟨.obj, []⟩, .vec true ⟨.obj, (v5 ++ [(a0.getD i default)])⟩]⟩ [0, 1, 2, 3, 8]))
       (.leaf .normal ⟨Z9 31 [(2, .ptr 0 0), (3, .ptr 1 0), (4, .map 2), (9, .coll ⟨.obj, a0⟩), (10, .int .i64 (a0.length : Int)), (11, .int .i64 (IntKind.i64.wrap ((i : Int) + (1 : Int))))], [.cells 67 [.vec 3], .cells 67 [.vec 4], .map ⟨.key, .bool, v3⟩, .vec true ⟨.obj, []⟩, .vec true ⟨.obj, v5⟩]⟩ [])))
   (.leaf (.exit 0) ⟨Z9 31 [(2, .ptr 0 0), (3, .ptr 1 0)], [.cells 67 [.vec 2], .cells 67 [.vec 3], .vec true ⟨.obj, []⟩, .vec true ⟨.obj, v5⟩]⟩ [0, 1, 3, 4]))
def Zc5 (a0 : List XObj) (i : Nat) (v3 : List (XKey × Bool)) (v5 : List XObj) : Tree :=
 .leaf (.exit 0) ⟨Z9 31 [(2, .ptr 0 0), (3, .ptr 1 0)], [.cells 67 [.vec 2], .cells 67 [.vec 3], .vec true ⟨.obj, []⟩, .vec true ⟨.obj, Z73 (a0.drop i) v3 v5⟩]⟩
theorem bind_ofL_loop (a0 : List XObj) (hp0 : a0.length ≤ 64) (hlen : a0.length < 4611686018427387904) (z : { z : Nat × (List (XKey × Bool)) × List XObj // z.1 ≤ a0.length ∧ z.2.2.length ≤ z.1 }) (Q : Exit → St → Prop) (h : (Zc5 a0 z.1.1 z.1.2.1 z.1.2.2).All Q) : Tr Tryz.prog 0 (.loop (Z49 Tryz.f13 0)) (Z10a a0 z.1.1 z.1.2.1 z.1.2.2) Q := by
 refine Z98 (kok _ _ _ _ _ _) (E := E_bind_of) (ι := { z : Nat × (List (XKey × Bool)) × List XObj // z.1 ≤ a0.length ∧ z.2.2.length ≤ z.1 }) 60 0 (fun _ => Z2a) (fun z => Z10a a0 z.1.1 z.1.2.1 z.1.2.2) (fun z => Zc5 a0 z.1.1 z.1.2.1 z.1.2.2) (fun z => bind_ofLR a0 z.1.1 z.1.2.1 z.1.2.2) (fun z => a0.length - z.1.1) (fun _ => Z14.none) (fun z => by obtain ⟨⟨i, v3, v5⟩, hi⟩ := z; kernel_rfl) (fun z => by obtain ⟨⟨i, v3, v5⟩, hi⟩ := z; kernel_rfl) (fun z => by obtain ⟨⟨i, v3, v5⟩, hi⟩ := z; kernel_rfl) ?_ z Q h
 rintro ⟨⟨i, v3, v5⟩, hi⟩ Q hT
 replace hT : (Zc5 a0 i v3 v5).All Q := hT
 replace hi : i ≤ a0.length ∧ v5.length ≤ i := hi
 show (bind_ofLR a0 i v3 v5).All _
 unfold bind_ofLR
 refine ⟨fun h0 => ?_, fun h0 => ?_⟩
 · have hlt : i < a0.length := by simpa using h0
   have hd := Z8e hlt
   have hw := Z85 (i := i) (by omega)
   refine ⟨Z6 (by first | assumption | omega | (intro; omega) | (simp only [decide_eq_true_eq, decide_eq_false_iff_not, Bool.cond_false_right, Bool.cond_true_right, Bool.cond_true_left, Bool.cond_false_left, Bool.and_eq_true, Bool.or_eq_true, Bool.not_eq_true', Z35, maxLen, List.length_cons, List.length_nil, List.length_append, Z28] at *; omega) | (intro; simp only [decide_eq_true_eq, decide_eq_false_iff_not, Bool.cond_false_right, Bool.cond_true_right, Bool.cond_true_left, Bool.cond_false_left, Bool.and_eq_true, Bool.or_eq_true, Bool.not_eq_true', Z35, maxLen, List.length_cons, List.length_nil, List.length_append, Z28] at *; omega)) (Z10), ?_⟩
   refine ⟨fun h1 => ?_, fun h1 => ?_⟩
   · refine ⟨Z6 (by first | assumption | omega | (intro; omega) | (simp only [decide_eq_true_eq, decide_eq_false_iff_not, Bool.cond_false_right, Bool.cond_true_right, Bool.cond_true_left, Bool.cond_false_left, Bool.and_eq_true, Bool.or_eq_true, Bool.not_eq_true', Z35, maxLen, List.length_cons, List.length_nil, List.length_append, Z28] at *; omega) | (intro; simp only [decide_eq_true_eq, decide_eq_false_iff_not, Bool.cond_false_right, Bool.cond_true_right, Bool.cond_true_left, Bool.cond_false_left, Bool.and_eq_true, Bool.or_eq_true, Bool.not_eq_true', Z35, maxLen, List.length_cons, List.length_nil, List.length_append, Z28] at *; omega)) (Z10), ?_⟩
     have hF : Z73 (a0.drop i) v3 v5 = Z73 (a0.drop (i + 1)) (mset (k := .key) (v := .bool) v3 (Z4d (a0.getD i default)) true) (v5 ++ [(a0.getD i default)]) := by rw [hd]; first | exact (Zb h1 rfl) | simp only [Z73, h0, h1, cond_true, cond_false]
     refine ⟨⟨((i + 1), (mset (k := .key) (v := .bool) v3 (Z4d (a0.getD i default)) true), (v5 ++ [(a0.getD i default)])), by (first | dsimp only | skip); constructor <;> (try simp only [List.length_append, List.length_cons, List.length_nil]) <;> omega⟩, by show a0.length - (i + 1) < a0.length - i; omega, ?_, ?_⟩
     · show _ = Z10a a0 (i + 1) (mset (k := .key) (v := .bool) v3 (Z4d (a0.getD i default)) true) (v5 ++ [(a0.getD i default)])
       unfold Z10a
       simp only [hw]
     · show (Zc5 a0 (i + 1) (mset (k := .key) (v := .bool) v3 (Z4d (a0.getD i default)) true) (v5 ++ [(a0.getD i default)])).All Q
       unfold Zc5 at hT ⊢
       rw [hF] at hT
       exact hT
   · have hF : Z73 (a0.drop i) v3 v5 = Z73 (a0.drop (i + 1)) v3 v5 := by rw [hd]; first | exact (Z5 h1 rfl) | simp only [Z73, h0, h1, cond_true, cond_false]
     refine ⟨⟨((i + 1), v3, v5), by (first | dsimp only | skip); constructor <;> (try simp only [List.length_append, List.length_cons, List.length_nil]) <;> omega⟩, by show a0.length - (i + 1) < a0.length - i; omega, ?_, ?_⟩
     · show _ = Z10a a0 (i + 1) v3 v5
       unfold Z10a
       simp only [hw]
     · show (Zc5 a0 (i + 1) v3 v5).All Q
       unfold Zc5 at hT ⊢
       rw [hF] at hT
       exact hT
 · have hge : ¬ i < a0.length := by simpa using h0
   have hd : a0.drop i = [] := List.drop_eq_nil_of_le (by omega)
   have hF : Z73 (a0.drop i) v3 v5 = v5 := by rw [hd]; first | exact rfl | simp only [Z73, h0, cond_true, cond_false]
   unfold Zc5 at hT
   rw [hF] at hT
   exact hT
def Z4 (a0 : List XObj) : List XObj :=
 Z73 a0 [] []
def bind_ofR (a0 : List XObj) : RT :=
 (.leaf .ret ⟨Z9 31 [(2, .ptr 1 0)], [.vec true ⟨.obj, Z73 a0 [] []⟩, .cells 67 [.vec 0]]⟩ [3, 0])
theorem bind_ofF_tr (a0 : List XObj) (hp0 : a0.length ≤ 64) : Tr Tryz.prog 0 (Z3a Tryz.f13) (Z1f Tryz.f13 [.coll ⟨.obj, a0⟩] []) (Z4a Tryz.prog Tryz.f13 (.agg [.vec 0]) [.vec true ⟨.obj, Z4 a0⟩]) := by
 refine Z20 (kok _ _ _ _ _ _) (E := E_bind_of) (L := (Z61 [(0, Z10a a0 0 [] [], [0, 2, 4, 1, 3], Zc5 a0 0 [] [])])) 60 9999 (Z14.one (g := Z49 Tryz.f13 0) (b := 0) (by kernel_rfl) (by kernel_rfl) (by kernel_rfl) (by kernel_rfl) (fun Q h => bind_ofL_loop a0 hp0 (by first | assumption | omega | (simp only [List.length_cons, List.length_nil, List.length_append]; omega)) ⟨(0, [], []), ⟨Nat.zero_le _, Nat.le_refl _⟩⟩ Q h)) (bind_ofR a0) (by kernel_rfl) (by kernel_rfl) (by kernel_rfl) ?_
 unfold bind_ofR
 exact ⟨trivial, .inl (by kernel_rfl), by kernel_rfl⟩
noncomputable def Z1af : Fact Tryz.prog := Z50 13 Tryz.f13 (by kernel_rfl) rfl (by kernel_rfl) [.c (.coll .obj)] [] false (fun t u => .agg [.vec 0]) (fun t u => [.vec true ⟨.obj, Z4 t.1⟩]) (fun t u => [t.1.length ≤ 64])
 (nofun) (fun t u => by kernel_rfl) (fun t u => by kernel_rfl) (fun t u h => bind_ofF_tr t.1 (h _ List.mem_cons_self))
end Go.Proofs.YtkledlcmhbjadaaGreatDoor
