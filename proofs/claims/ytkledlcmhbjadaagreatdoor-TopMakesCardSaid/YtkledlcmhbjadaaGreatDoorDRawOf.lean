/- Bind: each once, over a slice of the law's own. -/
import Derived.Test.YtkledlcmhbjadaaGreatDoorDHB
set_option linter.unusedVariables false
set_option linter.unusedSimpArgs false
set_option maxRecDepth 100000
namespace Go.Proofs.YtkledlcmhbjadaaGreatDoor
open Go Go.Eng
noncomputable def E_bind_of_2 : Env := Z57 (P := Tryz.prog) [Z18c] [] [] ckf
def Z6a  : List XObj → List (XKey × Bool) → List XObj → List XObj
 | [], v3, v5 => v5
 | o :: r, v3, v5 => cond (!((mget (k := .key) (v := .bool) v3 (Z4d o)).getD default))
  (Z6a r (mset (k := .key) (v := .bool) v3 (Z4d o) true) (v5 ++ [o]))
  (Z6a r v3 v5)
def Zb8 (b0 : List XObj) (i : Nat) (v3 : List (XKey × Bool)) (v5 : List XObj) : St :=
 ⟨Z9 31 [(2, .ptr 1 0), (3, .ptr 2 0), (4, .map 3), (9, .vec 0), (10, .int .i64 (b0.length : Int)), (11, .int .i64 (i : Int))], [.vec false ⟨.obj, b0⟩, .cells 67 [.vec 4], .cells 67 [.vec 5], .map ⟨.key, .bool, v3⟩, .vec true ⟨.obj, []⟩, .vec true ⟨.obj, v5⟩]⟩
def Z1f3 (b0 : List XObj) (i : Nat) (v3 : List (XKey × Bool)) (v5 : List XObj) : RT :=
 (.ask (decide ((i : Int) < (b0.length : Int)))
   (.need [0 ≤ (i : Int) ∧ (i : Int) < (b0.length : Int)]
     (.ask (!((mget (k := .key) (v := .bool) v3 (Z4d (b0.getD i default))).getD default))
       (.need [(v5.length + [(b0.getD i default)].length) * 192 ≤ Z35 ∧ v5.length + [(b0.getD i default)].length ≤ maxLen]
         (.leaf .normal ⟨Z9 31 [(2, .ptr 1 0), (3, .ptr 2 0), (4, .map 3), (9, .vec 0), (10, .int .i64 (b0.length : Int)), (11, .int .i64 (IntKind.i64.wrap ((i : Int) + (1 : Int))))], [.vec false ⟨.obj, b0⟩, .cells 67 [.vec 4], .cells 67 [.vec 5], .map ⟨.key, .bool, (mset (k := .key) (v := .bool) v3 (Z4d (b0.getD i default)) true)⟩, .vec true ⟨.obj, []⟩, .vec true ⟨.obj, (v5 ++ [(b0.getD i default)])⟩]⟩ [0, 1, 2, 3, 4, 9]))
       (.leaf .normal ⟨Z9 31 [(2, .ptr 1 0), (3, .ptr 2 0), (4, .map 3), (9, .vec 0), (10, .int .i64 (b0.length : Int)), (11, .int .i64 (IntKind.i64.wrap ((i : Int) + (1 : Int))))], [.vec false ⟨.obj, b0⟩, .cells 67 [.vec 4], .cells 67 [.vec 5], .map ⟨.key, .bool, v3⟩, .vec true ⟨.obj, []⟩, .vec true ⟨.obj, v5⟩]⟩ [])))
   (.leaf (.exit 0) ⟨Z9 31 [(2, .ptr 1 0), (3, .ptr 2 0)], [.vec false ⟨.obj, b0⟩, .cells 67 [.vec 3], .cells 67 [.vec 4], .vec true ⟨.obj, []⟩, .vec true ⟨.obj, v5⟩]⟩ [0, 1, 2, 4, 5]))
def Za0 (b0 : List XObj) (i : Nat) (v3 : List (XKey × Bool)) (v5 : List XObj) : Tree :=
 .leaf (.exit 0) ⟨Z9 31 [(2, .ptr 1 0), (3, .ptr 2 0)], [.vec false ⟨.obj, b0⟩, .cells 67 [.vec 3], .cells 67 [.vec 4], .vec true ⟨.obj, []⟩, .vec true ⟨.obj, Z6a (b0.drop i) v3 v5⟩]⟩
theorem bind_of_2L_loop (b0 : List XObj) (hp0 : b0.length ≤ 64) (hlen : b0.length < 4611686018427387904) (z : { z : Nat × (List (XKey × Bool)) × List XObj // z.1 ≤ b0.length ∧ z.2.2.length ≤ z.1 }) (Q : Exit → St → Prop) (h : (Za0 b0 z.1.1 z.1.2.1 z.1.2.2).All Q) : Tr Tryz.prog 1 (.loop (Z49 Tryz.f13 0)) (Zb8 b0 z.1.1 z.1.2.1 z.1.2.2) Q := by
 refine Z98 (kok _ _ _ _ _ _) (E := E_bind_of_2) (ι := { z : Nat × (List (XKey × Bool)) × List XObj // z.1 ≤ b0.length ∧ z.2.2.length ≤ z.1 }) 60 0 (fun _ => Z2a) (fun z => Zb8 b0 z.1.1 z.1.2.1 z.1.2.2) (fun z => Za0 b0 z.1.1 z.1.2.1 z.1.2.2) (fun z => Z1f3 b0 z.1.1 z.1.2.1 z.1.2.2) (fun z => b0.length - z.1.1) (fun _ => Z14.none) (fun z => by obtain ⟨⟨i, v3, v5⟩, hi⟩ := z; kernel_rfl) (fun z => by obtain ⟨⟨i, v3, v5⟩, hi⟩ := z; kernel_rfl) (fun z => by obtain ⟨⟨i, v3, v5⟩, hi⟩ := z; kernel_rfl) ?_ z Q h
 rintro ⟨⟨i, v3, v5⟩, hi⟩ Q hT
 replace hT : (Za0 b0 i v3 v5).All Q := hT
 replace hi : i ≤ b0.length ∧ v5.length ≤ i := hi
 show (Z1f3 b0 i v3 v5).All _
 unfold Z1f3
 refine ⟨fun h0 => ?_, fun h0 => ?_⟩
 · have hlt : i < b0.length := by simpa using h0
   have hd := Z8e hlt
   have hw := Z85 (i := i) (by omega)
   refine ⟨Z6 (by first | assumption | omega | (intro; omega) | (simp only [decide_eq_true_eq, decide_eq_false_iff_not, Bool.cond_false_right, Bool.cond_true_right, Bool.cond_true_left, Bool.cond_false_left, Bool.and_eq_true, Bool.or_eq_true, Bool.not_eq_true', Z35, maxLen, List.length_cons, List.length_nil, List.length_append, Z28] at *; omega) | (intro; simp only [decide_eq_true_eq, decide_eq_false_iff_not, Bool.cond_false_right, Bool.cond_true_right, Bool.cond_true_left, Bool.cond_false_left, Bool.and_eq_true, Bool.or_eq_true, Bool.not_eq_true', Z35, maxLen, List.length_cons, List.length_nil, List.length_append, Z28] at *; omega)) (Z10), ?_⟩
   refine ⟨fun h1 => ?_, fun h1 => ?_⟩
   · refine ⟨Z6 (by first | assumption | omega | (intro; omega) | (simp only [decide_eq_true_eq, decide_eq_false_iff_not, Bool.cond_false_right, Bool.cond_true_right, Bool.cond_true_left, Bool.cond_false_left, Bool.and_eq_true, Bool.or_eq_true, Bool.not_eq_true', Z35, maxLen, List.length_cons, List.length_nil, List.length_append, Z28] at *; omega) | (intro; simp only [decide_eq_true_eq, decide_eq_false_iff_not, Bool.cond_false_right, Bool.cond_true_right, Bool.cond_true_left, Bool.cond_false_left, Bool.and_eq_true, Bool.or_eq_true, Bool.not_eq_true', Z35, maxLen, List.length_cons, List.length_nil, List.length_append, Z28] at *; omega)) (Z10), ?_⟩
     have hF : Z6a (b0.drop i) v3 v5 = Z6a (b0.drop (i + 1)) (mset (k := .key) (v := .bool) v3 (Z4d (b0.getD i default)) true) (v5 ++ [(b0.getD i default)]) := by rw [hd]; first | exact (Zb h1 rfl) | simp only [Z6a, h0, h1, cond_true, cond_false]
     refine ⟨⟨((i + 1), (mset (k := .key) (v := .bool) v3 (Z4d (b0.getD i default)) true), (v5 ++ [(b0.getD i default)])), by (first | dsimp only | skip); constructor <;> (try simp only [List.length_append, List.length_cons, List.length_nil]) <;> omega⟩, by show b0.length - (i + 1) < b0.length - i; omega, ?_, ?_⟩
     · show _ = Zb8 b0 (i + 1) (mset (k := .key) (v := .bool) v3 (Z4d (b0.getD i default)) true) (v5 ++ [(b0.getD i default)])
       unfold Zb8
       simp only [hw]
     · show (Za0 b0 (i + 1) (mset (k := .key) (v := .bool) v3 (Z4d (b0.getD i default)) true) (v5 ++ [(b0.getD i default)])).All Q
       unfold Za0 at hT ⊢
       rw [hF] at hT
       exact hT
   · have hF : Z6a (b0.drop i) v3 v5 = Z6a (b0.drop (i + 1)) v3 v5 := by rw [hd]; first | exact (Z5 h1 rfl) | simp only [Z6a, h0, h1, cond_true, cond_false]
     refine ⟨⟨((i + 1), v3, v5), by (first | dsimp only | skip); constructor <;> (try simp only [List.length_append, List.length_cons, List.length_nil]) <;> omega⟩, by show b0.length - (i + 1) < b0.length - i; omega, ?_, ?_⟩
     · show _ = Zb8 b0 (i + 1) v3 v5
       unfold Zb8
       simp only [hw]
     · show (Za0 b0 (i + 1) v3 v5).All Q
       unfold Za0 at hT ⊢
       rw [hF] at hT
       exact hT
 · have hge : ¬ i < b0.length := by simpa using h0
   have hd : b0.drop i = [] := List.drop_eq_nil_of_le (by omega)
   have hF : Z6a (b0.drop i) v3 v5 = v5 := by rw [hd]; first | exact rfl | simp only [Z6a, h0, cond_true, cond_false]
   unfold Za0 at hT
   rw [hF] at hT
   exact hT
def Z2 (b0 : List XObj) : List XObj :=
 Z6a b0 [] []
def bind_of_2R (b0 : List XObj) : RT :=
 (.leaf .ret ⟨Z9 31 [(2, .ptr 2 0)], [.vec false ⟨.obj, b0⟩, .vec true ⟨.obj, Z6a b0 [] []⟩, .cells 67 [.vec 1]]⟩ [0, 4, 1])
theorem bind_of_2F_tr (b0 : List XObj) (hp0 : b0.length ≤ 64) : Tr Tryz.prog 1 (Z3a Tryz.f13) (Z1f Tryz.f13 [.vec 0] [.vec false ⟨.obj, b0⟩]) (Z4a Tryz.prog Tryz.f13 (.agg [.vec 1]) [.vec false ⟨.obj, b0⟩, .vec true ⟨.obj, Z2 b0⟩]) := by
 refine Z20 (kok _ _ _ _ _ _) (E := E_bind_of_2) (L := (Z61 [(0, Zb8 b0 0 [] [], [0, 1, 3, 5, 2, 4], Za0 b0 0 [] [])])) 60 9999 (Z14.one (g := Z49 Tryz.f13 0) (b := 0) (by kernel_rfl) (by kernel_rfl) (by kernel_rfl) (by kernel_rfl) (fun Q h => bind_of_2L_loop b0 hp0 (by first | assumption | omega | (simp only [List.length_cons, List.length_nil, List.length_append]; omega)) ⟨(0, [], []), ⟨Nat.zero_le _, Nat.le_refl _⟩⟩ Q h)) (bind_of_2R b0) (by kernel_rfl) (by kernel_rfl) (by kernel_rfl) ?_
 unfold bind_of_2R
 exact ⟨trivial, .inl (by kernel_rfl), by kernel_rfl⟩
noncomputable def bind_of_2_fact0 : Fact Tryz.prog := Z50 13 Tryz.f13 (by kernel_rfl) rfl (by kernel_rfl) [.c (.vec 0)] [.vec false .obj] false (fun t u => .agg [.vec 1]) (fun t u => [.vec false ⟨.obj, u.1⟩, .vec true ⟨.obj, Z2 u.1⟩]) (fun t u => [u.1.length ≤ 64])
 (nofun) (fun t u => by kernel_rfl) (fun t u => by kernel_rfl) (fun t u h => bind_of_2F_tr u.1 (h _ List.mem_cons_self))
noncomputable def Z1d7 : Fact Tryz.prog := Z9f bind_of_2_fact0 [.c (.vec 0)] [.vec false .obj] (fun t u => .agg [.vec 1]) (fun t u => [.vec false ⟨.obj, u.1⟩, .vec true ⟨.obj, Z2 u.1⟩]) (fun t u => [u.1.length ≤ 64]) rfl [0] (by
 intro t u k hk
 obtain rfl := List.mem_singleton.1 hk
 all_goals exact ⟨by decide, rfl⟩)
end Go.Proofs.YtkledlcmhbjadaaGreatDoor
