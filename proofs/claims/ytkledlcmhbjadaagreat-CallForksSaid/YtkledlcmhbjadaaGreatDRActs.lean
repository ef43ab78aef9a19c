/- The document's driver: what a call does. -/
import Derived.Test.YtkledlcmhbjadaaGreatDRCre
set_option linter.unusedVariables false
set_option linter.unusedSimpArgs false
set_option maxRecDepth 100000
namespace Go.Proofs.YtkledlcmhbjadaaGreat
open Go Go.Eng
noncomputable def E_r10_with : Env := Z65 (P := Tryz.prog) [] [] [] ckf
def Z2a (a1 : BA) : List BA → Bool → List BA → Bool × List BA
 | [], v2, v4 => (v2, v4)
 | o :: r, v2, v4 => cond (cond (!v2) (Z46 a1 o || decide (a1 = o)) false)
  (cond (!(decide (o = a1)))
    (Z2a a1 r true ((v4 ++ [a1]) ++ [o]))
    (Z2a a1 r true (v4 ++ [a1])))
  (cond (!(decide (o = a1)))
    (Z2a a1 r v2 (v4 ++ [o]))
    (Z2a a1 r v2 v4))
def Z92 (a0 : List BA) (a1 : BA) (v2 : Bool) (i : Nat) (v4 : List BA) : St :=
 ⟨Za 48 [(0, .coll ⟨.str, a0⟩), (1, .str a1), (5, .vec 0), (6, .bool v2), (7, .int .i64 (i : Int))], [.vec true ⟨.str, v4⟩]⟩
def Z219 (a0 : List BA) (a1 : BA) (v2 : Bool) (i : Nat) (v4 : List BA) : RT :=
 (.ask (decide ((i : Int) < (a0.length : Int)))
   (.need [((!v2) = true) → (0 ≤ (i : Int) ∧ (i : Int) < (a0.length : Int))]
     (.ask (cond (!v2) (Z46 a1 (a0.getD i default) || decide (a1 = (a0.getD i default))) false)
       (.need [(v4.length + [a1].length) * 16 ≤ Z18 ∧ v4.length + [a1].length ≤ maxLen]
         (.need [0 ≤ (i : Int) ∧ (i : Int) < (a0.length : Int)]
           (.ask (!(decide ((a0.getD i default) = a1)))
             (.need [0 ≤ (i : Int) ∧ (i : Int) < (a0.length : Int)]
               (.need [((v4 ++ [a1]).length + [(a0.getD i default)].length) * 16 ≤ Z18 ∧ (v4 ++ [a1]).length + [(a0.getD i default)].length ≤ maxLen]
                 (.leaf .normal ⟨Za 48 [(0, .coll ⟨.str, a0⟩), (1, .str a1), (5, .vec 0), (6, .bool true), (7, .int .i64 (IntKind.i64.wrap ((i : Int) + (1 : Int))))], [.vec true ⟨.str, ((v4 ++ [a1]) ++ [(a0.getD i default)])⟩]⟩ [4])))
             (.leaf .normal ⟨Za 48 [(0, .coll ⟨.str, a0⟩), (1, .str a1), (5, .vec 0), (6, .bool true), (7, .int .i64 (IntKind.i64.wrap ((i : Int) + (1 : Int))))], [.vec true ⟨.str, (v4 ++ [a1])⟩]⟩ [2]))))
       (.need [0 ≤ (i : Int) ∧ (i : Int) < (a0.length : Int)]
         (.ask (!(decide ((a0.getD i default) = a1)))
           (.need [0 ≤ (i : Int) ∧ (i : Int) < (a0.length : Int)]
             (.need [(v4.length + [(a0.getD i default)].length) * 16 ≤ Z18 ∧ v4.length + [(a0.getD i default)].length ≤ maxLen]
               (.leaf .normal ⟨Za 48 [(0, .coll ⟨.str, a0⟩), (1, .str a1), (5, .vec 0), (6, .bool v2), (7, .int .i64 (IntKind.i64.wrap ((i : Int) + (1 : Int))))], [.vec true ⟨.str, (v4 ++ [(a0.getD i default)])⟩]⟩ [2])))
           (.leaf .normal ⟨Za 48 [(0, .coll ⟨.str, a0⟩), (1, .str a1), (5, .vec 0), (6, .bool v2), (7, .int .i64 (IntKind.i64.wrap ((i : Int) + (1 : Int))))], [.vec true ⟨.str, v4⟩]⟩ [])))))
   (.leaf (.exit 0) ⟨Za 48 [(1, .str a1), (5, .vec 0), (6, .bool v2)], [.vec true ⟨.str, v4⟩]⟩ []))
def Z80 (a0 : List BA) (a1 : BA) (v2 : Bool) (i : Nat) (v4 : List BA) : Tree :=
 .leaf (.exit 0) ⟨Za 48 [(1, .str a1), (5, .vec 0), (6, .bool ((Z2a a1 (a0.drop i) v2 v4).1))], [.vec true ⟨.str, (Z2a a1 (a0.drop i) v2 v4).2⟩]⟩
theorem r10_withL_loop (a0 : List BA) (a1 : BA) (hp0 : a0.length ≤ 1000) (hlen : a0.length < 4611686018427387904) (z : { z : Bool × Nat × List BA // z.2.1 ≤ a0.length ∧ z.2.2.length ≤ 2 * z.2.1 }) (Q : Exit → St → Prop) (h : (Z80 a0 a1 z.1.1 z.1.2.1 z.1.2.2).All Q) : Tr Tryz.prog 0 (.loop (Z47 Tryz.f85 0)) (Z92 a0 a1 z.1.1 z.1.2.1 z.1.2.2) Q := by
 refine Z60 (kok _ _ _ _ _ _) (E := E_r10_with) (ι := { z : Bool × Nat × List BA // z.2.1 ≤ a0.length ∧ z.2.2.length ≤ 2 * z.2.1 }) 60 0 (fun _ => Z32) (fun z => Z92 a0 a1 z.1.1 z.1.2.1 z.1.2.2) (fun z => Z80 a0 a1 z.1.1 z.1.2.1 z.1.2.2) (fun z => Z219 a0 a1 z.1.1 z.1.2.1 z.1.2.2) (fun z => a0.length - z.1.2.1) (fun _ => Z14.none) (fun z => by obtain ⟨⟨v2, i, v4⟩, hi⟩ := z; kernel_rfl) (fun z => by obtain ⟨⟨v2, i, v4⟩, hi⟩ := z; kernel_rfl) (fun z => by obtain ⟨⟨v2, i, v4⟩, hi⟩ := z; kernel_rfl) ?_ z Q h
 rintro ⟨⟨v2, i, v4⟩, hi⟩ Q hT
 replace hT : (Z80 a0 a1 v2 i v4).All Q := hT
 replace hi : i ≤ a0.length ∧ v4.length ≤ 2 * i := hi
 show (Z219 a0 a1 v2 i v4).All _
 unfold Z219
 refine ⟨fun h0 => ?_, fun h0 => ?_⟩
 · have hlt : i < a0.length := by simpa using h0
   have hd := Z64 hlt
   have hw := Z4e (i := i) (by omega)
   refine ⟨Z2 (by (try refine fun (_ : _ = _) => ?_); first | omega | (constructor <;> omega)) (Z9), ?_⟩
   refine ⟨fun h1 => ?_, fun h1 => ?_⟩
   · refine ⟨Z2 (by (try refine fun (_ : _ = _) => ?_); unfold Z18 maxLen; (try simp only [List.length_append, List.length_cons, List.length_nil, List.length_drop, List.length_take]); omega) (Z9), ?_⟩
     refine ⟨Z2 (by (try refine fun (_ : _ = _) => ?_); first | omega | (constructor <;> omega)) (Z9), ?_⟩
     refine ⟨fun h2 => ?_, fun h2 => ?_⟩
     · refine ⟨Z2 (by (try refine fun (_ : _ = _) => ?_); first | omega | (constructor <;> omega)) (Z9), ?_⟩
       refine ⟨Z2 (by (try refine fun (_ : _ = _) => ?_); unfold Z18 maxLen; (try simp only [List.length_append, List.length_cons, List.length_nil, List.length_drop, List.length_take]); omega) (Z9), ?_⟩
       have hF : Z2a a1 (a0.drop i) v2 v4 = Z2a a1 (a0.drop (i + 1)) true ((v4 ++ [a1]) ++ [(a0.getD i default)]) := by rw [hd]; first | exact (Z12 h1 (Z12 h2 rfl)) | simp only [Z2a, h0, h1, h2, cond_true, cond_false]
       refine ⟨⟨(true, (i + 1), ((v4 ++ [a1]) ++ [(a0.getD i default)])), by (first | dsimp only | skip); constructor <;> (try simp only [List.length_append, List.length_cons, List.length_nil]) <;> omega⟩, by show a0.length - (i + 1) < a0.length - i; omega, ?_, ?_⟩
       · show _ = Z92 a0 a1 true (i + 1) ((v4 ++ [a1]) ++ [(a0.getD i default)])
         unfold Z92
         simp only [hw]
       · show (Z80 a0 a1 true (i + 1) ((v4 ++ [a1]) ++ [(a0.getD i default)])).All Q
         unfold Z80 at hT ⊢
         rw [hF] at hT
         exact hT
     · have hF : Z2a a1 (a0.drop i) v2 v4 = Z2a a1 (a0.drop (i + 1)) true (v4 ++ [a1]) := by rw [hd]; first | exact (Z12 h1 (Z3 h2 rfl)) | simp only [Z2a, h0, h1, h2, cond_true, cond_false]
       refine ⟨⟨(true, (i + 1), (v4 ++ [a1])), by (first | dsimp only | skip); constructor <;> (try simp only [List.length_append, List.length_cons, List.length_nil]) <;> omega⟩, by show a0.length - (i + 1) < a0.length - i; omega, ?_, ?_⟩
       · show _ = Z92 a0 a1 true (i + 1) (v4 ++ [a1])
         unfold Z92
         simp only [hw]
       · show (Z80 a0 a1 true (i + 1) (v4 ++ [a1])).All Q
         unfold Z80 at hT ⊢
         rw [hF] at hT
         exact hT
   · refine ⟨Z2 (by (try refine fun (_ : _ = _) => ?_); first | omega | (constructor <;> omega)) (Z9), ?_⟩
     refine ⟨fun h2 => ?_, fun h2 => ?_⟩
     · refine ⟨Z2 (by (try refine fun (_ : _ = _) => ?_); first | omega | (constructor <;> omega)) (Z9), ?_⟩
       refine ⟨Z2 (by (try refine fun (_ : _ = _) => ?_); unfold Z18 maxLen; (try simp only [List.length_append, List.length_cons, List.length_nil, List.length_drop, List.length_take]); omega) (Z9), ?_⟩
       have hF : Z2a a1 (a0.drop i) v2 v4 = Z2a a1 (a0.drop (i + 1)) v2 (v4 ++ [(a0.getD i default)]) := by rw [hd]; first | exact (Z3 h1 (Z12 h2 rfl)) | simp only [Z2a, h0, h1, h2, cond_true, cond_false]
       refine ⟨⟨(v2, (i + 1), (v4 ++ [(a0.getD i default)])), by (first | dsimp only | skip); constructor <;> (try simp only [List.length_append, List.length_cons, List.length_nil]) <;> omega⟩, by show a0.length - (i + 1) < a0.length - i; omega, ?_, ?_⟩
       · show _ = Z92 a0 a1 v2 (i + 1) (v4 ++ [(a0.getD i default)])
         unfold Z92
         simp only [hw]
       · show (Z80 a0 a1 v2 (i + 1) (v4 ++ [(a0.getD i default)])).All Q
         unfold Z80 at hT ⊢
         rw [hF] at hT
         exact hT
     · have hF : Z2a a1 (a0.drop i) v2 v4 = Z2a a1 (a0.drop (i + 1)) v2 v4 := by rw [hd]; first | exact (Z3 h1 (Z3 h2 rfl)) | simp only [Z2a, h0, h1, h2, cond_true, cond_false]
       refine ⟨⟨(v2, (i + 1), v4), by (first | dsimp only | skip); constructor <;> (try simp only [List.length_append, List.length_cons, List.length_nil]) <;> omega⟩, by show a0.length - (i + 1) < a0.length - i; omega, ?_, ?_⟩
       · show _ = Z92 a0 a1 v2 (i + 1) v4
         unfold Z92
         simp only [hw]
       · show (Z80 a0 a1 v2 (i + 1) v4).All Q
         unfold Z80 at hT ⊢
         rw [hF] at hT
         exact hT
 · have hge : ¬ i < a0.length := by simpa using h0
   have hd : a0.drop i = [] := List.drop_eq_nil_of_le (by omega)
   have hF : Z2a a1 (a0.drop i) v2 v4 = (v2, v4) := by rw [hd]; first | exact rfl | simp only [Z2a, h0, cond_true, cond_false]
   unfold Z80 at hT
   rw [hF] at hT
   exact hT
theorem Z1e1 (a1 : BA) : ∀ (l : List BA) (p : Bool) (v : List BA), (Z2a a1 l p v).2.length ≤ v.length + 2 * l.length
 | [], p, v => by simp [Z2a]
 | o :: r, p, v => by
  unfold Z2a
  rw [List.length_cons]
  simp only [Bool.cond_eq_ite]
  repeat' split
  all_goals
   refine Nat.le_trans (Z1e1 a1 r _ _) ?_
   (try simp only [List.length_append, List.length_cons, List.length_nil])
   omega
def Z9a (a0 : List BA) (a1 : BA) : List BA :=
 cond (!((Z2a a1 a0 false []).1))
  (((Z2a a1 a0 false []).2) ++ [a1])
  ((Z2a a1 a0 false []).2)
def r10_withR (a0 : List BA) (a1 : BA) : RT :=
 (.ask (!((Z2a a1 a0 false []).1))
   (.need [(((Z2a a1 a0 false []).2).length + [a1].length) * 16 ≤ Z18 ∧ ((Z2a a1 a0 false []).2).length + [a1].length ≤ maxLen]
     (.leaf .ret ⟨Za 48 [(4, .vec 0)], [.vec true ⟨.str, (((Z2a a1 a0 false []).2) ++ [a1])⟩]⟩ [2]))
   (.leaf .ret ⟨Za 48 [(4, .vec 0)], [.vec true ⟨.str, (Z2a a1 a0 false []).2⟩]⟩ []))
theorem r10_withF_tr (a0 : List BA) (a1 : BA) (hp0 : a0.length ≤ 1000) : Tr Tryz.prog 0 (Z3c Tryz.f85) (Z27 Tryz.f85 [.coll ⟨.str, a0⟩, .str a1] []) (Z48 Tryz.prog Tryz.f85 (.vec 0) [.vec true ⟨.str, Z9a a0 a1⟩]) := by
 refine Z2f (kok _ _ _ _ _ _) (E := E_r10_with) (L := (Z5f [(0, Z92 a0 a1 false 0 [], [1], Z80 a0 a1 false 0 [])])) 60 9999 (Z14.one (g := Z47 Tryz.f85 0) (b := 0) (by kernel_rfl) (by kernel_rfl) (by kernel_rfl) (by kernel_rfl) (fun Q h => r10_withL_loop a0 a1 hp0 (by omega) ⟨(false, 0, []), ⟨Nat.zero_le _, Nat.zero_le _⟩⟩ Q h)) (r10_withR a0 a1) (by kernel_rfl) (by kernel_rfl) (by kernel_rfl) ?_
 unfold r10_withR
 refine ⟨fun h0 => ?_, fun h0 => ?_⟩
 · refine ⟨Z2 (by (try refine fun (_ : _ = _) => ?_); (try have h80 := Z1e1 a1 a0 false []); (try simp only [List.length_nil] at *); unfold Z18 maxLen; (try simp only [List.length_append, List.length_cons, List.length_nil, List.length_drop, List.length_take]); omega) (Z9), ?_⟩
   have hF : Z9a a0 a1 = (((Z2a a1 a0 false []).2) ++ [a1]) := by first | exact (Z12 h0 rfl) | simp only [Z9a, h0, cond_true, cond_false]
   exact ⟨trivial, .inl (by (try rw [hF]); kernel_rfl), by (try rw [hF]); kernel_rfl⟩
 · have hF : Z9a a0 a1 = ((Z2a a1 a0 false []).2) := by first | exact (Z3 h0 rfl) | simp only [Z9a, h0, cond_true, cond_false]
   exact ⟨trivial, .inl (by (try rw [hF]); kernel_rfl), by (try rw [hF]); kernel_rfl⟩
noncomputable def r10_with_fact : Fact Tryz.prog := Z4b 85 Tryz.f85 (by kernel_rfl) rfl (by kernel_rfl) [.c (.coll .str), .c (.str)] [] false (fun t u => .vec 0) (fun t u => [.vec true ⟨.str, Z9a t.1 t.2.1⟩]) (fun t u => [t.1.length ≤ 1000])
 (nofun) (fun t u => by kernel_rfl) (fun t u => by kernel_rfl) (fun t u h => r10_withF_tr t.1 t.2.1 (h _ mS))
noncomputable def Z1fe : Env := Z65 (P := Tryz.prog) [] [] [] ckf
def Z4c (a1 : BA) : List BA → List BA → List BA
 | [], v3 => v3
 | o :: r, v3 => cond (!(decide (o = a1)))
  (Z4c a1 r (v3 ++ [o]))
  (Z4c a1 r v3)
def Z98 (a0 : List BA) (a1 : BA) (i : Nat) (v3 : List BA) : St :=
 ⟨Za 27 [(0, .coll ⟨.str, a0⟩), (1, .str a1), (5, .vec 0), (6, .int .i64 (i : Int))], [.vec true ⟨.str, v3⟩]⟩
def Z138 (a0 : List BA) (a1 : BA) (i : Nat) (v3 : List BA) : RT :=
 (.ask (decide ((i : Int) < (a0.length : Int)))
   (.need [0 ≤ (i : Int) ∧ (i : Int) < (a0.length : Int)]
     (.ask (!(decide ((a0.getD i default) = a1)))
       (.need [0 ≤ (i : Int) ∧ (i : Int) < (a0.length : Int)]
         (.need [(v3.length + [(a0.getD i default)].length) * 16 ≤ Z18 ∧ v3.length + [(a0.getD i default)].length ≤ maxLen]
           (.leaf .normal ⟨Za 27 [(0, .coll ⟨.str, a0⟩), (1, .str a1), (5, .vec 0), (6, .int .i64 (IntKind.i64.wrap ((i : Int) + (1 : Int))))], [.vec true ⟨.str, (v3 ++ [(a0.getD i default)])⟩]⟩ [2])))
       (.leaf .normal ⟨Za 27 [(0, .coll ⟨.str, a0⟩), (1, .str a1), (5, .vec 0), (6, .int .i64 (IntKind.i64.wrap ((i : Int) + (1 : Int))))], [.vec true ⟨.str, v3⟩]⟩ [])))
   (.leaf (.exit 0) ⟨Za 27 [(5, .vec 0)], [.vec true ⟨.str, v3⟩]⟩ []))
def Z7b (a0 : List BA) (a1 : BA) (i : Nat) (v3 : List BA) : Tree :=
 .leaf (.exit 0) ⟨Za 27 [(5, .vec 0)], [.vec true ⟨.str, Z4c a1 (a0.drop i) v3⟩]⟩
theorem Z218 (a0 : List BA) (a1 : BA) (hp0 : a0.length ≤ 1000) (hlen : a0.length < 4611686018427387904) (z : { z : Nat × List BA // z.1 ≤ a0.length ∧ z.2.length ≤ 2 * z.1 }) (Q : Exit → St → Prop) (h : (Z7b a0 a1 z.1.1 z.1.2).All Q) : Tr Tryz.prog 0 (.loop (Z47 Tryz.f86 0)) (Z98 a0 a1 z.1.1 z.1.2) Q := by
 refine Z60 (kok _ _ _ _ _ _) (E := Z1fe) (ι := { z : Nat × List BA // z.1 ≤ a0.length ∧ z.2.length ≤ 2 * z.1 }) 60 0 (fun _ => Z32) (fun z => Z98 a0 a1 z.1.1 z.1.2) (fun z => Z7b a0 a1 z.1.1 z.1.2) (fun z => Z138 a0 a1 z.1.1 z.1.2) (fun z => a0.length - z.1.1) (fun _ => Z14.none) (fun z => by obtain ⟨⟨i, v3⟩, hi⟩ := z; kernel_rfl) (fun z => by obtain ⟨⟨i, v3⟩, hi⟩ := z; kernel_rfl) (fun z => by obtain ⟨⟨i, v3⟩, hi⟩ := z; kernel_rfl) ?_ z Q h
 rintro ⟨⟨i, v3⟩, hi⟩ Q hT
 replace hT : (Z7b a0 a1 i v3).All Q := hT
 replace hi : i ≤ a0.length ∧ v3.length ≤ 2 * i := hi
 show (Z138 a0 a1 i v3).All _
 unfold Z138
 refine ⟨fun h0 => ?_, fun h0 => ?_⟩
 · have hlt : i < a0.length := by simpa using h0
   have hd := Z64 hlt
   have hw := Z4e (i := i) (by omega)
   refine ⟨Z2 (by (try refine fun (_ : _ = _) => ?_); first | omega | (constructor <;> omega)) (Z9), ?_⟩
   refine ⟨fun h1 => ?_, fun h1 => ?_⟩
   · refine ⟨Z2 (by (try refine fun (_ : _ = _) => ?_); first | omega | (constructor <;> omega)) (Z9), ?_⟩
     refine ⟨Z2 (by (try refine fun (_ : _ = _) => ?_); unfold Z18 maxLen; (try simp only [List.length_append, List.length_cons, List.length_nil, List.length_drop, List.length_take]); omega) (Z9), ?_⟩
     have hF : Z4c a1 (a0.drop i) v3 = Z4c a1 (a0.drop (i + 1)) (v3 ++ [(a0.getD i default)]) := by rw [hd]; first | exact (Z12 h1 rfl) | simp only [Z4c, h0, h1, cond_true, cond_false]
     refine ⟨⟨((i + 1), (v3 ++ [(a0.getD i default)])), by (first | dsimp only | skip); constructor <;> (try simp only [List.length_append, List.length_cons, List.length_nil]) <;> omega⟩, by show a0.length - (i + 1) < a0.length - i; omega, ?_, ?_⟩
     · show _ = Z98 a0 a1 (i + 1) (v3 ++ [(a0.getD i default)])
       unfold Z98
       simp only [hw]
     · show (Z7b a0 a1 (i + 1) (v3 ++ [(a0.getD i default)])).All Q
       unfold Z7b at hT ⊢
       rw [hF] at hT
       exact hT
   · have hF : Z4c a1 (a0.drop i) v3 = Z4c a1 (a0.drop (i + 1)) v3 := by rw [hd]; first | exact (Z3 h1 rfl) | simp only [Z4c, h0, h1, cond_true, cond_false]
     refine ⟨⟨((i + 1), v3), by (first | dsimp only | skip); constructor <;> (try simp only [List.length_append, List.length_cons, List.length_nil]) <;> omega⟩, by show a0.length - (i + 1) < a0.length - i; omega, ?_, ?_⟩
     · show _ = Z98 a0 a1 (i + 1) v3
       unfold Z98
       simp only [hw]
     · show (Z7b a0 a1 (i + 1) v3).All Q
       unfold Z7b at hT ⊢
       rw [hF] at hT
       exact hT
 · have hge : ¬ i < a0.length := by simpa using h0
   have hd : a0.drop i = [] := List.drop_eq_nil_of_le (by omega)
   have hF : Z4c a1 (a0.drop i) v3 = v3 := by rw [hd]; first | exact rfl | simp only [Z4c, h0, cond_true, cond_false]
   unfold Z7b at hT
   rw [hF] at hT
   exact hT
def Z95 (a0 : List BA) (a1 : BA) : List BA :=
 Z4c a1 a0 []
def Z238 (a0 : List BA) (a1 : BA) : RT :=
 (.leaf .ret ⟨Za 27 [(4, .vec 0)], [.vec true ⟨.str, Z4c a1 a0 []⟩]⟩ [])
theorem r10_withoutF_tr (a0 : List BA) (a1 : BA) (hp0 : a0.length ≤ 1000) : Tr Tryz.prog 0 (Z3c Tryz.f86) (Z27 Tryz.f86 [.coll ⟨.str, a0⟩, .str a1] []) (Z48 Tryz.prog Tryz.f86 (.vec 0) [.vec true ⟨.str, Z95 a0 a1⟩]) := by
 refine Z2f (kok _ _ _ _ _ _) (E := Z1fe) (L := (Z5f [(0, Z98 a0 a1 0 [], [1], Z7b a0 a1 0 [])])) 60 9999 (Z14.one (g := Z47 Tryz.f86 0) (b := 0) (by kernel_rfl) (by kernel_rfl) (by kernel_rfl) (by kernel_rfl) (fun Q h => Z218 a0 a1 hp0 (by omega) ⟨(0, []), ⟨Nat.zero_le _, Nat.zero_le _⟩⟩ Q h)) (Z238 a0 a1) (by kernel_rfl) (by kernel_rfl) (by kernel_rfl) ?_
 unfold Z238
 exact ⟨trivial, .inl (by kernel_rfl), by kernel_rfl⟩
noncomputable def Z24b : Fact Tryz.prog := Z4b 86 Tryz.f86 (by kernel_rfl) rfl (by kernel_rfl) [.c (.coll .str), .c (.str)] [] false (fun t u => .vec 0) (fun t u => [.vec true ⟨.str, Z95 t.1 t.2.1⟩]) (fun t u => [t.1.length ≤ 1000])
 (nofun) (fun t u => by kernel_rfl) (fun t u => by kernel_rfl) (fun t u h => r10_withoutF_tr t.1 t.2.1 (h _ mS))
noncomputable def E_rD_do : Env := Z65 (P := Tryz.prog) [Z135, rD_create_fact, Zba, Z161, r10_with_fact, Z24b, rD_expand_fact, rD_cut_fact, Z163] [] [] ckf true
def Z17 (a1 : XCall) (b1 : LZ) (b2 : LV) (b3 : LS) (b4 : LQ) : XRes × LZ × LV × LS × LQ :=
 cond (a1.verb == (1 : Int))
  (((Zc a1 b1 b2 b3 b4).1), (Zc a1 b1 b2 b3 b4).2.1, (Zc a1 b1 b2 b3 b4).2.2.1, (Zc a1 b1 b2 b3 b4).2.2.2.1, (Zc a1 b1 b2 b3 b4).2.2.2.2)
  (cond (a1.verb == (2 : Int))
    (cond (decide ((Z5 a1.target b1 b2 b3 b4) < (0 : Int)))
      ((default : XRes), b1, b2, b3, b4)
      (cond (decide ((((b2.getD ((Z5 a1.target b1 b2 b3 b4).toNat) default).nodes).length : Int) > (0 : Int)))
        ((Z8 (10 : Int)), b1, b2, b3, b4)
        ((default : XRes), (b1.set ((Z16 ((b2.getD ((Z5 a1.target b1 b2 b3 b4).toNat) default).zone) b1 b2 b3 b4).toNat) (⟨(b1.getD ((Z16 ((b2.getD ((Z5 a1.target b1 b2 b3 b4).toNat) default).zone) b1 b2 b3 b4).toNat) default).name, (IntKind.i64.wrap (((b1.getD ((Z16 ((b2.getD ((Z5 a1.target b1 b2 b3 b4).toNat) default).zone) b1 b2 b3 b4).toNat) default).room) + ((b2.getD ((Z5 a1.target b1 b2 b3 b4).toNat) default).size)))⟩ : XZone)), (([] ++ ((b2.take ((Z5 a1.target b1 b2 b3 b4).toNat)).drop 0)) ++ ((b2.take ((b2.length : Int).toNat)).drop ((IntKind.i64.wrap ((Z5 a1.target b1 b2 b3 b4) + (1 : Int))).toNat))), b3, b4)))
    (cond (a1.verb == (3 : Int))
      (cond (decide ((Z5 a1.target b1 b2 b3 b4) < (0 : Int)))
        ((Z8 (5 : Int)), b1, b2, b3, b4)
        ((default : XRes), b1, (b2.set ((Z5 a1.target b1 b2 b3 b4).toNat) (⟨(b2.getD ((Z5 a1.target b1 b2 b3 b4).toNat) default).name, ((b2.getD ((Z5 a1.target b1 b2 b3 b4).toNat) default).size), (b2.getD ((Z5 a1.target b1 b2 b3 b4).toNat) default).zone, ((b2.getD ((Z5 a1.target b1 b2 b3 b4).toNat) default).tag), Z9a ((b2.getD ((Z5 a1.target b1 b2 b3 b4).toNat) default).nodes) a1.node⟩ : XVol)), b3, b4))
      (cond (a1.verb == (4 : Int))
        (cond (decide ((Z5 a1.target b1 b2 b3 b4) ≥ (0 : Int)))
          ((default : XRes), b1, (b2.set ((Z5 a1.target b1 b2 b3 b4).toNat) (⟨(b2.getD ((Z5 a1.target b1 b2 b3 b4).toNat) default).name, ((b2.getD ((Z5 a1.target b1 b2 b3 b4).toNat) default).size), (b2.getD ((Z5 a1.target b1 b2 b3 b4).toNat) default).zone, ((b2.getD ((Z5 a1.target b1 b2 b3 b4).toNat) default).tag), Z95 ((b2.getD ((Z5 a1.target b1 b2 b3 b4).toNat) default).nodes) a1.node⟩ : XVol)), b3, b4)
          ((default : XRes), b1, b2, b3, b4))
        (cond (a1.verb == (5 : Int))
          (((Z20 (Z5 a1.target b1 b2 b3 b4) a1 b1 b2 b3 b4).1), (Z20 (Z5 a1.target b1 b2 b3 b4) a1 b1 b2 b3 b4).2.1, (Z20 (Z5 a1.target b1 b2 b3 b4) a1 b1 b2 b3 b4).2.2, b3, b4)
          (cond (a1.verb == (6 : Int))
            (((Z33 a1 b1 b2 b3 b4).1), (Z33 a1 b1 b2 b3 b4).2.1, (Z33 a1 b1 b2 b3 b4).2.2.1, (Z33 a1 b1 b2 b3 b4).2.2.2.1, (Z33 a1 b1 b2 b3 b4).2.2.2.2)
            (cond (decide ((Z24 a1.target b1 b2 b3 b4) ≥ (0 : Int)))
              ((default : XRes), b1, b2, (([] ++ ((b3.take ((Z24 a1.target b1 b2 b3 b4).toNat)).drop 0)) ++ ((b3.take ((b3.length : Int).toNat)).drop ((IntKind.i64.wrap ((Z24 a1.target b1 b2 b3 b4) + (1 : Int))).toNat))), b4)
              ((default : XRes), b1, b2, b3, b4)))))))
def rD_doR (a1 : XCall) (b1 : LZ) (b2 : LV) (b3 : LS) (b4 : LQ) : RT :=
 (.need [b1.length ≤ 1000, b2.length ≤ 1000, b3.length ≤ 1000, b4.length ≤ 1000]
   (.ask (a1.verb == (1 : Int))
     (.need [b1.length ≤ 1000, b2.length ≤ 1000, b3.length ≤ 1000, b4.length ≤ 1000, ∀ v ∈ b2, v.nodes.length ≤ 1000, ∀ v ∈ b2, ZHas b1 v.zone]
       (.leaf .ret ⟨Za 167 [(4, .ptr 5 0)], (.cells 111 [.vec 6, .vec 7, .vec 8, .vec 9] :: .dead :: .dead :: .dead :: .dead :: .cells 52 [.int .i64 (((Zc a1 b1 b2 b3 b4).1).err), .int .i64 (((Zc a1 b1 b2 b3 b4).1).size), .str (((Zc a1 b1 b2 b3 b4).1).zone), .int .u64 (((Zc a1 b1 b2 b3 b4).1).tag)] :: oV ((Zc a1 b1 b2 b3 b4).2.1) ((Zc a1 b1 b2 b3 b4).2.2.1) ((Zc a1 b1 b2 b3 b4).2.2.2.1) ((Zc a1 b1 b2 b3 b4).2.2.2.2) [])⟩ [0, 1, 2, 3, 4, 6, 7, 8, 9, 10]))
     (.ask (a1.verb == (2 : Int))
       (.ask (decide ((Z5 a1.target b1 b2 b3 b4) < (0 : Int)))
         (.leaf .ret ⟨Za 167 [(4, .ptr 5 0)], (.cells 111 [.vec 1, .vec 2, .vec 3, .vec 4] :: oV b1 b2 b3 b4 [.cells 52 [.int .i64 0, .int .i64 0, .str (⟨#[]⟩ : BA), .int .u64 0]])⟩ [0, 1, 2, 3, 4, 6])
         (.need [0 ≤ (Z5 a1.target b1 b2 b3 b4) ∧ (Z5 a1.target b1 b2 b3 b4) < (b2.length : Int)]
           (.ask (decide ((((b2.getD ((Z5 a1.target b1 b2 b3 b4).toNat) default).nodes).length : Int) > (0 : Int)))
             (.leaf .ret ⟨Za 167 [(4, .ptr 5 0)], (.cells 111 [.vec 1, .vec 2, .vec 3, .vec 4] :: oV b1 b2 b3 b4 [.cells 52 [.int .i64 ((Z8 (10 : Int)).err), .int .i64 ((Z8 (10 : Int)).size), .str ((Z8 (10 : Int)).zone), .int .u64 ((Z8 (10 : Int)).tag)]])⟩ [0, 1, 2, 3, 4, 6])
             (.need [0 ≤ (Z5 a1.target b1 b2 b3 b4) ∧ (Z5 a1.target b1 b2 b3 b4) < (b2.length : Int), b1.length ≤ 1000, b2.length ≤ 1000, b3.length ≤ 1000, b4.length ≤ 1000, 0 ≤ (Z16 ((b2.getD ((Z5 a1.target b1 b2 b3 b4).toNat) default).zone) b1 b2 b3 b4) ∧ (Z16 ((b2.getD ((Z5 a1.target b1 b2 b3 b4).toNat) default).zone) b1 b2 b3 b4) < (b1.length : Int), 0 ≤ (Z5 a1.target b1 b2 b3 b4) ∧ (Z5 a1.target b1 b2 b3 b4) < (b2.length : Int), 0 ≤ (Z16 ((b2.getD ((Z5 a1.target b1 b2 b3 b4).toNat) default).zone) b1 b2 b3 b4) ∧ (Z16 ((b2.getD ((Z5 a1.target b1 b2 b3 b4).toNat) default).zone) b1 b2 b3 b4) < (b1.length : Int)]
               (.need [0 ≤ (0 : Int) ∧ (0 : Int) ≤ (Z5 a1.target b1 b2 b3 b4) ∧ (Z5 a1.target b1 b2 b3 b4) ≤ (b2.length : Int), (([] : LV).length + ((b2.take ((Z5 a1.target b1 b2 b3 b4).toNat)).drop 0).length) * 72 ≤ Z18 ∧ ([] : LV).length + ((b2.take ((Z5 a1.target b1 b2 b3 b4).toNat)).drop 0).length ≤ maxLen, 0 ≤ (IntKind.i64.wrap ((Z5 a1.target b1 b2 b3 b4) + (1 : Int))) ∧ (IntKind.i64.wrap ((Z5 a1.target b1 b2 b3 b4) + (1 : Int))) ≤ (b2.length : Int) ∧ (b2.length : Int) ≤ (b2.length : Int), (([] ++ ((b2.take ((Z5 a1.target b1 b2 b3 b4).toNat)).drop 0)).length + ((b2.take ((b2.length : Int).toNat)).drop ((IntKind.i64.wrap ((Z5 a1.target b1 b2 b3 b4) + (1 : Int))).toNat)).length) * 72 ≤ Z18 ∧ ([] ++ ((b2.take ((Z5 a1.target b1 b2 b3 b4).toNat)).drop 0)).length + ((b2.take ((b2.length : Int).toNat)).drop ((IntKind.i64.wrap ((Z5 a1.target b1 b2 b3 b4) + (1 : Int))).toNat)).length ≤ maxLen]
                 (.leaf .ret ⟨Za 167 [(4, .ptr 5 0)], (.cells 111 [.vec 1, .vec 6, .vec 3, .vec 4] :: oV (b1.set ((Z16 ((b2.getD ((Z5 a1.target b1 b2 b3 b4).toNat) default).zone) b1 b2 b3 b4).toNat) (⟨(b1.getD ((Z16 ((b2.getD ((Z5 a1.target b1 b2 b3 b4).toNat) default).zone) b1 b2 b3 b4).toNat) default).name, (IntKind.i64.wrap (((b1.getD ((Z16 ((b2.getD ((Z5 a1.target b1 b2 b3 b4).toNat) default).zone) b1 b2 b3 b4).toNat) default).room) + ((b2.getD ((Z5 a1.target b1 b2 b3 b4).toNat) default).size)))⟩ : XZone)) b2 b3 b4 [.cells 52 [.int .i64 0, .int .i64 0, .str (⟨#[]⟩ : BA), .int .u64 0], .vec false ⟨.vol, (([] ++ ((b2.take ((Z5 a1.target b1 b2 b3 b4).toNat)).drop 0)) ++ ((b2.take ((b2.length : Int).toNat)).drop ((IntKind.i64.wrap ((Z5 a1.target b1 b2 b3 b4) + (1 : Int))).toNat)))⟩])⟩ [0, 1, 2, 3, 4, 6, 9]))))))
       (.ask (a1.verb == (3 : Int))
         (.ask (decide ((Z5 a1.target b1 b2 b3 b4) < (0 : Int)))
           (.leaf .ret ⟨Za 167 [(4, .ptr 5 0)], (.cells 111 [.vec 1, .vec 2, .vec 3, .vec 4] :: oV b1 b2 b3 b4 [.cells 52 [.int .i64 ((Z8 (5 : Int)).err), .int .i64 ((Z8 (5 : Int)).size), .str ((Z8 (5 : Int)).zone), .int .u64 ((Z8 (5 : Int)).tag)]])⟩ [0, 1, 2, 3, 4, 6])
           (.need [0 ≤ (Z5 a1.target b1 b2 b3 b4) ∧ (Z5 a1.target b1 b2 b3 b4) < (b2.length : Int), ((b2.getD ((Z5 a1.target b1 b2 b3 b4).toNat) default).nodes).length ≤ 1000, 0 ≤ (Z5 a1.target b1 b2 b3 b4) ∧ (Z5 a1.target b1 b2 b3 b4) < (b2.length : Int)]
             (.leaf .ret ⟨Za 167 [(4, .ptr 5 0)], (.cells 111 [.vec 1, .vec 2, .vec 3, .vec 4] :: oV b1 (b2.set ((Z5 a1.target b1 b2 b3 b4).toNat) (⟨(b2.getD ((Z5 a1.target b1 b2 b3 b4).toNat) default).name, ((b2.getD ((Z5 a1.target b1 b2 b3 b4).toNat) default).size), (b2.getD ((Z5 a1.target b1 b2 b3 b4).toNat) default).zone, ((b2.getD ((Z5 a1.target b1 b2 b3 b4).toNat) default).tag), Z9a ((b2.getD ((Z5 a1.target b1 b2 b3 b4).toNat) default).nodes) a1.node⟩ : XVol)) b3 b4 [.cells 52 [.int .i64 0, .int .i64 0, .str (⟨#[]⟩ : BA), .int .u64 0]])⟩ [0, 1, 2, 3, 4, 6])))
         (.ask (a1.verb == (4 : Int))
           (.ask (decide ((Z5 a1.target b1 b2 b3 b4) ≥ (0 : Int)))
             (.need [0 ≤ (Z5 a1.target b1 b2 b3 b4) ∧ (Z5 a1.target b1 b2 b3 b4) < (b2.length : Int), ((b2.getD ((Z5 a1.target b1 b2 b3 b4).toNat) default).nodes).length ≤ 1000, 0 ≤ (Z5 a1.target b1 b2 b3 b4) ∧ (Z5 a1.target b1 b2 b3 b4) < (b2.length : Int)]
               (.leaf .ret ⟨Za 167 [(4, .ptr 5 0)], (.cells 111 [.vec 1, .vec 2, .vec 3, .vec 4] :: oV b1 (b2.set ((Z5 a1.target b1 b2 b3 b4).toNat) (⟨(b2.getD ((Z5 a1.target b1 b2 b3 b4).toNat) default).name, ((b2.getD ((Z5 a1.target b1 b2 b3 b4).toNat) default).size), (b2.getD ((Z5 a1.target b1 b2 b3 b4).toNat) default).zone, ((b2.getD ((Z5 a1.target b1 b2 b3 b4).toNat) default).tag), Z95 ((b2.getD ((Z5 a1.target b1 b2 b3 b4).toNat) default).nodes) a1.node⟩ : XVol)) b3 b4 [.cells 52 [.int .i64 0, .int .i64 0, .str (⟨#[]⟩ : BA), .int .u64 0]])⟩ [0, 1, 2, 3, 4, 6]))
             (.leaf .ret ⟨Za 167 [(4, .ptr 5 0)], (.cells 111 [.vec 1, .vec 2, .vec 3, .vec 4] :: oV b1 b2 b3 b4 [.cells 52 [.int .i64 0, .int .i64 0, .str (⟨#[]⟩ : BA), .int .u64 0]])⟩ [0, 1, 2, 3, 4, 6]))
           (.ask (a1.verb == (5 : Int))
             (.need [b1.length ≤ 1000, b2.length ≤ 1000, b3.length ≤ 1000, b4.length ≤ 1000, ∀ v ∈ b2, v.nodes.length ≤ 1000, ∀ v ∈ b2, ZHas b1 v.zone, (Z5 a1.target b1 b2 b3 b4) < (b2.length : Int)]
               (.leaf .ret ⟨Za 167 [(4, .ptr 5 0)], (.cells 111 [.vec 1, .vec 2, .vec 3, .vec 4] :: oV ((Z20 (Z5 a1.target b1 b2 b3 b4) a1 b1 b2 b3 b4).2.1) ((Z20 (Z5 a1.target b1 b2 b3 b4) a1 b1 b2 b3 b4).2.2) b3 b4 [.cells 52 [.int .i64 (((Z20 (Z5 a1.target b1 b2 b3 b4) a1 b1 b2 b3 b4).1).err), .int .i64 (((Z20 (Z5 a1.target b1 b2 b3 b4) a1 b1 b2 b3 b4).1).size), .str (((Z20 (Z5 a1.target b1 b2 b3 b4) a1 b1 b2 b3 b4).1).zone), .int .u64 (((Z20 (Z5 a1.target b1 b2 b3 b4) a1 b1 b2 b3 b4).1).tag)]])⟩ [0, 1, 2, 3, 4, 6]))
             (.ask (a1.verb == (6 : Int))
               (.need [b1.length ≤ 1000, b2.length ≤ 1000, b3.length ≤ 1000, b4.length ≤ 1000, ∀ v ∈ b2, v.nodes.length ≤ 1000, ∀ v ∈ b2, ZHas b1 v.zone]
                 (.leaf .ret ⟨Za 167 [(4, .ptr 5 0)], (.cells 111 [.vec 6, .vec 7, .vec 8, .vec 9] :: .dead :: .dead :: .dead :: .dead :: .cells 52 [.int .i64 (((Z33 a1 b1 b2 b3 b4).1).err), .int .i64 (((Z33 a1 b1 b2 b3 b4).1).size), .str (((Z33 a1 b1 b2 b3 b4).1).zone), .int .u64 (((Z33 a1 b1 b2 b3 b4).1).tag)] :: oV ((Z33 a1 b1 b2 b3 b4).2.1) ((Z33 a1 b1 b2 b3 b4).2.2.1) ((Z33 a1 b1 b2 b3 b4).2.2.2.1) ((Z33 a1 b1 b2 b3 b4).2.2.2.2) [])⟩ [0, 1, 2, 3, 4, 6, 7, 8, 9, 10]))
               (.need [b1.length ≤ 1000, b2.length ≤ 1000, b3.length ≤ 1000, b4.length ≤ 1000]
                 (.ask (decide ((Z24 a1.target b1 b2 b3 b4) ≥ (0 : Int)))
                   (.need [0 ≤ (0 : Int) ∧ (0 : Int) ≤ (Z24 a1.target b1 b2 b3 b4) ∧ (Z24 a1.target b1 b2 b3 b4) ≤ (b3.length : Int), (([] : LS).length + ((b3.take ((Z24 a1.target b1 b2 b3 b4).toNat)).drop 0).length) * 32 ≤ Z18 ∧ ([] : LS).length + ((b3.take ((Z24 a1.target b1 b2 b3 b4).toNat)).drop 0).length ≤ maxLen, 0 ≤ (IntKind.i64.wrap ((Z24 a1.target b1 b2 b3 b4) + (1 : Int))) ∧ (IntKind.i64.wrap ((Z24 a1.target b1 b2 b3 b4) + (1 : Int))) ≤ (b3.length : Int) ∧ (b3.length : Int) ≤ (b3.length : Int), (([] ++ ((b3.take ((Z24 a1.target b1 b2 b3 b4).toNat)).drop 0)).length + ((b3.take ((b3.length : Int).toNat)).drop ((IntKind.i64.wrap ((Z24 a1.target b1 b2 b3 b4) + (1 : Int))).toNat)).length) * 32 ≤ Z18 ∧ ([] ++ ((b3.take ((Z24 a1.target b1 b2 b3 b4).toNat)).drop 0)).length + ((b3.take ((b3.length : Int).toNat)).drop ((IntKind.i64.wrap ((Z24 a1.target b1 b2 b3 b4) + (1 : Int))).toNat)).length ≤ maxLen]
                     (.leaf .ret ⟨Za 167 [(4, .ptr 5 0)], (.cells 111 [.vec 1, .vec 2, .vec 6, .vec 4] :: oV b1 b2 b3 b4 [.cells 52 [.int .i64 0, .int .i64 0, .str (⟨#[]⟩ : BA), .int .u64 0], .vec false ⟨.snap, (([] ++ ((b3.take ((Z24 a1.target b1 b2 b3 b4).toNat)).drop 0)) ++ ((b3.take ((b3.length : Int).toNat)).drop ((IntKind.i64.wrap ((Z24 a1.target b1 b2 b3 b4) + (1 : Int))).toNat)))⟩])⟩ [0, 1, 2, 3, 4, 6, 9]))
                   (.leaf .ret ⟨Za 167 [(4, .ptr 5 0)], (.cells 111 [.vec 1, .vec 2, .vec 3, .vec 4] :: oV b1 b2 b3 b4 [.cells 52 [.int .i64 0, .int .i64 0, .str (⟨#[]⟩ : BA), .int .u64 0]])⟩ [0, 1, 2, 3, 4, 6]))))))))))
theorem rD_doF_tr (a1 : XCall) (b1 : LZ) (b2 : LV) (b3 : LS) (b4 : LQ) (hp0 : b1.length ≤ 1000) (hp1 : b2.length ≤ 1000) (hp2 : b3.length ≤ 1000) (hp3 : b4.length ≤ 1000) (hp4 : ∀ v ∈ b2, v.nodes.length ≤ 1000) (hp5 : ∀ v ∈ b2, ZHas b1 v.zone) : Tr Tryz.prog 5 (Z3c Tryz.f71) (Z27 Tryz.f71 [.ptr 0 0, .agg (cc a1)] (.cells 111 [.vec 1, .vec 2, .vec 3, .vec 4] :: oV b1 b2 b3 b4 [])) (Z48 Tryz.prog Tryz.f71 (.agg [.int .i64 (((Z17 a1 b1 b2 b3 b4).1).err), .int .i64 (((Z17 a1 b1 b2 b3 b4).1).size), .str (((Z17 a1 b1 b2 b3 b4).1).zone), .int .u64 (((Z17 a1 b1 b2 b3 b4).1).tag)]) (.cells 111 [.vec 5, .vec 6, .vec 7, .vec 8] :: .dead :: .dead :: .dead :: .dead :: oV ((Z17 a1 b1 b2 b3 b4).2.1) ((Z17 a1 b1 b2 b3 b4).2.2.1) ((Z17 a1 b1 b2 b3 b4).2.2.2.1) ((Z17 a1 b1 b2 b3 b4).2.2.2.2) [])) := by
 refine Tr.post ?_
 refine Z2f (kok _ _ _ _ _ _) (E := E_rD_do) (L := Z32) 60 9999 Z14.none (rD_doR a1 b1 b2 b3 b4) (by kernel_rfl) (by kernel_rfl) (by kernel_rfl) ?_
 unfold rD_doR
 refine ⟨(by (iterate 4 refine Z2 (by (try refine fun (_ : _ = _) => ?_); (try have hq := rngs a1 b1 b2 b3 b4); (try simp only [decide_eq_true_eq, decide_eq_false_iff_not, Bool.not_eq_false'] at *); first | omega | (constructor <;> omega)) ?_); exact Z9), ?_⟩
 refine ⟨fun h0 => ?_, fun h0 => ?_⟩
 · refine ⟨(by (iterate 4 refine Z2 (by (try refine fun (_ : _ = _) => ?_); (try have hq := rngs a1 b1 b2 b3 b4); (try simp only [decide_eq_true_eq, decide_eq_false_iff_not, Bool.not_eq_false'] at *); first | omega | (constructor <;> omega)) ?_); (iterate 2 refine Z2 (by assumption) ?_); exact Z9), ?_⟩
   have hF : Z17 a1 b1 b2 b3 b4 = (((Zc a1 b1 b2 b3 b4).1), (Zc a1 b1 b2 b3 b4).2.1, (Zc a1 b1 b2 b3 b4).2.2.1, (Zc a1 b1 b2 b3 b4).2.2.2.1, (Zc a1 b1 b2 b3 b4).2.2.2.2) := by first | exact (Z12 h0 rfl) | simp only [Z17, h0, cond_true, cond_false]
   exact ⟨_, ((((Turn.moveC 0 0 6 10 rfl rfl rfl (by simp [hset, oM, oV])).trans (Turn.moveC 0 1 7 11 rfl rfl rfl (by simp [hset, oM, oV]))).trans (Turn.moveC 0 2 8 12 rfl rfl rfl (by simp [hset, oM, oV]))).trans (Turn.moveC 0 3 9 13 rfl rfl rfl (by simp [hset, oM, oV]))).trans (Turn.fits (p := ⟨Za 167 [(4, .ptr 9 0)], (.cells 111 [.vec 5, .vec 6, .vec 7, .vec 8] :: .dead :: .dead :: .dead :: .dead :: oV ((Zc a1 b1 b2 b3 b4).2.1) ((Zc a1 b1 b2 b3 b4).2.2.1) ((Zc a1 b1 b2 b3 b4).2.2.2.1) ((Zc a1 b1 b2 b3 b4).2.2.2.2) [.cells 52 [.int .i64 (((Zc a1 b1 b2 b3 b4).1).err), .int .i64 (((Zc a1 b1 b2 b3 b4).1).size), .str (((Zc a1 b1 b2 b3 b4).1).zone), .int .u64 (((Zc a1 b1 b2 b3 b4).1).tag)]])⟩) [0, 1, 2, 3, 4, 10, 11, 12, 13, 5] (by kernel_rfl) (by kernel_rfl) (by kernel_rfl) (by kernel_rfl)), trivial, .inl (by (try rw [hF]); kernel_rfl), by (try rw [hF]); kernel_rfl⟩
 · refine ⟨fun h1 => ?_, fun h1 => ?_⟩
   · refine ⟨fun h2 => ?_, fun h2 => ?_⟩
     · have hF : Z17 a1 b1 b2 b3 b4 = ((default : XRes), b1, b2, b3, b4) := by first | exact (Z3 h0 (Z12 h1 (Z12 h2 rfl))) | simp only [Z17, h0, h1, h2, cond_true, cond_false]
       exact ⟨_, ((((Turn.moveC 0 0 1 6 rfl rfl rfl (by simp [hset, oM, oV])).trans (Turn.moveC 0 1 2 7 rfl rfl rfl (by simp [hset, oM, oV]))).trans (Turn.moveC 0 2 3 8 rfl rfl rfl (by simp [hset, oM, oV]))).trans (Turn.moveC 0 3 4 9 rfl rfl rfl (by simp [hset, oM, oV]))).trans (Turn.fits (p := ⟨Za 167 [(4, .ptr 9 0)], (.cells 111 [.vec 5, .vec 6, .vec 7, .vec 8] :: .dead :: .dead :: .dead :: .dead :: oV b1 b2 b3 b4 [.cells 52 [.int .i64 0, .int .i64 0, .str (⟨#[]⟩ : BA), .int .u64 0]])⟩) [0, 1, 2, 3, 4, 6, 7, 8, 9, 5] (by kernel_rfl) (by kernel_rfl) (by kernel_rfl) (by kernel_rfl)), trivial, .inl (by (try rw [hF]); kernel_rfl), by (try rw [hF]); kernel_rfl⟩
     · refine ⟨Z2 (by (try refine fun (_ : _ = _) => ?_); (try have hq := rngs a1 b1 b2 b3 b4); (try simp only [decide_eq_true_eq, decide_eq_false_iff_not, Bool.not_eq_false'] at *); first | omega | (constructor <;> omega)) (Z9), ?_⟩
       refine ⟨fun h3 => ?_, fun h3 => ?_⟩
       · have hF : Z17 a1 b1 b2 b3 b4 = ((Z8 (10 : Int)), b1, b2, b3, b4) := by first | exact (Z3 h0 (Z12 h1 (Z3 h2 (Z12 h3 rfl)))) | simp only [Z17, h0, h1, h2, h3, cond_true, cond_false]
         exact ⟨_, ((((Turn.moveC 0 0 1 6 rfl rfl rfl (by simp [hset, oM, oV])).trans (Turn.moveC 0 1 2 7 rfl rfl rfl (by simp [hset, oM, oV]))).trans (Turn.moveC 0 2 3 8 rfl rfl rfl (by simp [hset, oM, oV]))).trans (Turn.moveC 0 3 4 9 rfl rfl rfl (by simp [hset, oM, oV]))).trans (Turn.fits (p := ⟨Za 167 [(4, .ptr 9 0)], (.cells 111 [.vec 5, .vec 6, .vec 7, .vec 8] :: .dead :: .dead :: .dead :: .dead :: oV b1 b2 b3 b4 [.cells 52 [.int .i64 ((Z8 (10 : Int)).err), .int .i64 ((Z8 (10 : Int)).size), .str ((Z8 (10 : Int)).zone), .int .u64 ((Z8 (10 : Int)).tag)]])⟩) [0, 1, 2, 3, 4, 6, 7, 8, 9, 5] (by kernel_rfl) (by kernel_rfl) (by kernel_rfl) (by kernel_rfl)), trivial, .inl (by (try rw [hF]); kernel_rfl), by (try rw [hF]); kernel_rfl⟩
       · refine ⟨(by (iterate 5 refine Z2 (by (try refine fun (_ : _ = _) => ?_); (try have hq := rngs a1 b1 b2 b3 b4); (try simp only [decide_eq_true_eq, decide_eq_false_iff_not, Bool.not_eq_false'] at *); first | omega | (constructor <;> omega)) ?_); refine Z2 (by (try refine fun (_ : _ = _) => ?_); (try have hq := rngs a1 b1 b2 b3 b4); (try simp only [decide_eq_true_eq, decide_eq_false_iff_not, Bool.not_eq_false'] at *); refine ⟨Z1cc (hp5 _ (Zf4 ?_ ?_)) _ _ _, (Zcc _ _ _ _ _).2⟩ <;> omega) ?_; refine Z2 (by (try refine fun (_ : _ = _) => ?_); (try have hq := rngs a1 b1 b2 b3 b4); (try simp only [decide_eq_true_eq, decide_eq_false_iff_not, Bool.not_eq_false'] at *); first | omega | (constructor <;> omega)) ?_; refine Z2 (by (try refine fun (_ : _ = _) => ?_); (try have hq := rngs a1 b1 b2 b3 b4); (try simp only [decide_eq_true_eq, decide_eq_false_iff_not, Bool.not_eq_false'] at *); refine ⟨Z1cc (hp5 _ (Zf4 ?_ ?_)) _ _ _, (Zcc _ _ _ _ _).2⟩ <;> omega) ?_; exact Z9), ?_⟩
         refine ⟨(by refine Z2 (by (try refine fun (_ : _ = _) => ?_); (try have hq := rngs a1 b1 b2 b3 b4); (try simp only [decide_eq_true_eq, decide_eq_false_iff_not, Bool.not_eq_false'] at *); first | omega | (constructor <;> omega)) ?_; refine Z2 (by (try refine fun (_ : _ = _) => ?_); (try have hq := rngs a1 b1 b2 b3 b4); (try simp only [decide_eq_true_eq, decide_eq_false_iff_not, Bool.not_eq_false'] at *); unfold Z18 maxLen; (try simp only [List.length_append, List.length_cons, List.length_nil, List.length_drop, List.length_take]); omega) ?_; (iterate 2 refine Z2 (by (try refine fun (_ : _ = _) => ?_); (try have hq := rngs a1 b1 b2 b3 b4); (try simp only [decide_eq_true_eq, decide_eq_false_iff_not, Bool.not_eq_false'] at *); (try rw [wrap1 (x := Z5 a1.target b1 b2 b3 b4) (by omega) (by omega)]); (try rw [wrap1 (x := Z24 a1.target b1 b2 b3 b4) (by omega) (by omega)]); (try unfold Z18); (try unfold maxLen); (try simp only [List.length_append, List.length_cons, List.length_nil, List.length_drop, List.length_take]); omega) ?_); exact Z9), ?_⟩
         have hF : Z17 a1 b1 b2 b3 b4 = ((default : XRes), (b1.set ((Z16 ((b2.getD ((Z5 a1.target b1 b2 b3 b4).toNat) default).zone) b1 b2 b3 b4).toNat) (⟨(b1.getD ((Z16 ((b2.getD ((Z5 a1.target b1 b2 b3 b4).toNat) default).zone) b1 b2 b3 b4).toNat) default).name, (IntKind.i64.wrap (((b1.getD ((Z16 ((b2.getD ((Z5 a1.target b1 b2 b3 b4).toNat) default).zone) b1 b2 b3 b4).toNat) default).room) + ((b2.getD ((Z5 a1.target b1 b2 b3 b4).toNat) default).size)))⟩ : XZone)), (([] ++ ((b2.take ((Z5 a1.target b1 b2 b3 b4).toNat)).drop 0)) ++ ((b2.take ((b2.length : Int).toNat)).drop ((IntKind.i64.wrap ((Z5 a1.target b1 b2 b3 b4) + (1 : Int))).toNat))), b3, b4) := by first | exact (Z3 h0 (Z12 h1 (Z3 h2 (Z3 h3 rfl)))) | simp only [Z17, h0, h1, h2, h3, cond_true, cond_false]
         exact ⟨_, ((((Turn.moveC 0 0 1 7 rfl rfl rfl (by simp [hset, oM, oV])).trans (Turn.moveC 0 1 6 8 rfl rfl rfl (by simp [hset, oM, oV]))).trans (Turn.moveC 0 2 3 9 rfl rfl rfl (by simp [hset, oM, oV]))).trans (Turn.moveC 0 3 4 10 rfl rfl rfl (by simp [hset, oM, oV]))).trans (Turn.fits (p := ⟨Za 167 [(4, .ptr 9 0)], (.cells 111 [.vec 5, .vec 6, .vec 7, .vec 8] :: .dead :: .dead :: .dead :: .dead :: oV (b1.set ((Z16 ((b2.getD ((Z5 a1.target b1 b2 b3 b4).toNat) default).zone) b1 b2 b3 b4).toNat) (⟨(b1.getD ((Z16 ((b2.getD ((Z5 a1.target b1 b2 b3 b4).toNat) default).zone) b1 b2 b3 b4).toNat) default).name, (IntKind.i64.wrap (((b1.getD ((Z16 ((b2.getD ((Z5 a1.target b1 b2 b3 b4).toNat) default).zone) b1 b2 b3 b4).toNat) default).room) + ((b2.getD ((Z5 a1.target b1 b2 b3 b4).toNat) default).size)))⟩ : XZone)) (([] ++ ((b2.take ((Z5 a1.target b1 b2 b3 b4).toNat)).drop 0)) ++ ((b2.take ((b2.length : Int).toNat)).drop ((IntKind.i64.wrap ((Z5 a1.target b1 b2 b3 b4) + (1 : Int))).toNat))) b3 b4 [.cells 52 [.int .i64 0, .int .i64 0, .str (⟨#[]⟩ : BA), .int .u64 0]])⟩) [0, 1, 2, 3, 4, 7, 8, 9, 10, 5] (by kernel_rfl) (by kernel_rfl) (by kernel_rfl) (by kernel_rfl)), trivial, .inl (by (try rw [hF]); kernel_rfl), by (try rw [hF]); kernel_rfl⟩
   · refine ⟨fun h2 => ?_, fun h2 => ?_⟩
     · refine ⟨fun h3 => ?_, fun h3 => ?_⟩
       · have hF : Z17 a1 b1 b2 b3 b4 = ((Z8 (5 : Int)), b1, b2, b3, b4) := by first | exact (Z3 h0 (Z3 h1 (Z12 h2 (Z12 h3 rfl)))) | simp only [Z17, h0, h1, h2, h3, cond_true, cond_false]
         exact ⟨_, ((((Turn.moveC 0 0 1 6 rfl rfl rfl (by simp [hset, oM, oV])).trans (Turn.moveC 0 1 2 7 rfl rfl rfl (by simp [hset, oM, oV]))).trans (Turn.moveC 0 2 3 8 rfl rfl rfl (by simp [hset, oM, oV]))).trans (Turn.moveC 0 3 4 9 rfl rfl rfl (by simp [hset, oM, oV]))).trans (Turn.fits (p := ⟨Za 167 [(4, .ptr 9 0)], (.cells 111 [.vec 5, .vec 6, .vec 7, .vec 8] :: .dead :: .dead :: .dead :: .dead :: oV b1 b2 b3 b4 [.cells 52 [.int .i64 ((Z8 (5 : Int)).err), .int .i64 ((Z8 (5 : Int)).size), .str ((Z8 (5 : Int)).zone), .int .u64 ((Z8 (5 : Int)).tag)]])⟩) [0, 1, 2, 3, 4, 6, 7, 8, 9, 5] (by kernel_rfl) (by kernel_rfl) (by kernel_rfl) (by kernel_rfl)), trivial, .inl (by (try rw [hF]); kernel_rfl), by (try rw [hF]); kernel_rfl⟩
       · refine ⟨Z2 (by (try refine fun (_ : _ = _) => ?_); (try have hq := rngs a1 b1 b2 b3 b4); (try simp only [decide_eq_true_eq, decide_eq_false_iff_not, Bool.not_eq_false'] at *); first | omega | (constructor <;> omega)) (Z2 (by (try refine fun (_ : _ = _) => ?_); (try have hq := rngs a1 b1 b2 b3 b4); (try simp only [decide_eq_true_eq, decide_eq_false_iff_not, Bool.not_eq_false'] at *); refine hp4 _ (Zf4 ?_ ?_) <;> omega) (Z2 (by (try refine fun (_ : _ = _) => ?_); (try have hq := rngs a1 b1 b2 b3 b4); (try simp only [decide_eq_true_eq, decide_eq_false_iff_not, Bool.not_eq_false'] at *); first | omega | (constructor <;> omega)) (Z9))), ?_⟩
         have hF : Z17 a1 b1 b2 b3 b4 = ((default : XRes), b1, (b2.set ((Z5 a1.target b1 b2 b3 b4).toNat) (⟨(b2.getD ((Z5 a1.target b1 b2 b3 b4).toNat) default).name, ((b2.getD ((Z5 a1.target b1 b2 b3 b4).toNat) default).size), (b2.getD ((Z5 a1.target b1 b2 b3 b4).toNat) default).zone, ((b2.getD ((Z5 a1.target b1 b2 b3 b4).toNat) default).tag), Z9a ((b2.getD ((Z5 a1.target b1 b2 b3 b4).toNat) default).nodes) a1.node⟩ : XVol)), b3, b4) := by first | exact (Z3 h0 (Z3 h1 (Z12 h2 (Z3 h3 rfl)))) | simp only [Z17, h0, h1, h2, h3, cond_true, cond_false]
         exact ⟨_, ((((Turn.moveC 0 0 1 6 rfl rfl rfl (by simp [hset, oM, oV])).trans (Turn.moveC 0 1 2 7 rfl rfl rfl (by simp [hset, oM, oV]))).trans (Turn.moveC 0 2 3 8 rfl rfl rfl (by simp [hset, oM, oV]))).trans (Turn.moveC 0 3 4 9 rfl rfl rfl (by simp [hset, oM, oV]))).trans (Turn.fits (p := ⟨Za 167 [(4, .ptr 9 0)], (.cells 111 [.vec 5, .vec 6, .vec 7, .vec 8] :: .dead :: .dead :: .dead :: .dead :: oV b1 (b2.set ((Z5 a1.target b1 b2 b3 b4).toNat) (⟨(b2.getD ((Z5 a1.target b1 b2 b3 b4).toNat) default).name, ((b2.getD ((Z5 a1.target b1 b2 b3 b4).toNat) default).size), (b2.getD ((Z5 a1.target b1 b2 b3 b4).toNat) default).zone, ((b2.getD ((Z5 a1.target b1 b2 b3 b4).toNat) default).tag), Z9a ((b2.getD ((Z5 a1.target b1 b2 b3 b4).toNat) default).nodes) a1.node⟩ : XVol)) b3 b4 [.cells 52 [.int .i64 0, .int .i64 0, .str (⟨#[]⟩ : BA), .int .u64 0]])⟩) [0, 1, 2, 3, 4, 6, 7, 8, 9, 5] (by kernel_rfl) (by kernel_rfl) (by kernel_rfl) (by kernel_rfl)), trivial, .inl (by (try rw [hF]); kernel_rfl), by (try rw [hF]); kernel_rfl⟩
     · refine ⟨fun h3 => ?_, fun h3 => ?_⟩
       · refine ⟨fun h4 => ?_, fun h4 => ?_⟩
         · refine ⟨Z2 (by (try refine fun (_ : _ = _) => ?_); (try have hq := rngs a1 b1 b2 b3 b4); (try simp only [decide_eq_true_eq, decide_eq_false_iff_not, Bool.not_eq_false'] at *); first | omega | (constructor <;> omega)) (Z2 (by (try refine fun (_ : _ = _) => ?_); (try have hq := rngs a1 b1 b2 b3 b4); (try simp only [decide_eq_true_eq, decide_eq_false_iff_not, Bool.not_eq_false'] at *); refine hp4 _ (Zf4 ?_ ?_) <;> omega) (Z2 (by (try refine fun (_ : _ = _) => ?_); (try have hq := rngs a1 b1 b2 b3 b4); (try simp only [decide_eq_true_eq, decide_eq_false_iff_not, Bool.not_eq_false'] at *); first | omega | (constructor <;> omega)) (Z9))), ?_⟩
           have hF : Z17 a1 b1 b2 b3 b4 = ((default : XRes), b1, (b2.set ((Z5 a1.target b1 b2 b3 b4).toNat) (⟨(b2.getD ((Z5 a1.target b1 b2 b3 b4).toNat) default).name, ((b2.getD ((Z5 a1.target b1 b2 b3 b4).toNat) default).size), (b2.getD ((Z5 a1.target b1 b2 b3 b4).toNat) default).zone, ((b2.getD ((Z5 a1.target b1 b2 b3 b4).toNat) default).tag), Z95 ((b2.getD ((Z5 a1.target b1 b2 b3 b4).toNat) default).nodes) a1.node⟩ : XVol)), b3, b4) := by first | exact (Z3 h0 (Z3 h1 (Z3 h2 (Z12 h3 (Z12 h4 rfl))))) | simp only [Z17, h0, h1, h2, h3, h4, cond_true, cond_false]
           exact ⟨_, ((((Turn.moveC 0 0 1 6 rfl rfl rfl (by simp [hset, oM, oV])).trans (Turn.moveC 0 1 2 7 rfl rfl rfl (by simp [hset, oM, oV]))).trans (Turn.moveC 0 2 3 8 rfl rfl rfl (by simp [hset, oM, oV]))).trans (Turn.moveC 0 3 4 9 rfl rfl rfl (by simp [hset, oM, oV]))).trans (Turn.fits (p := ⟨Za 167 [(4, .ptr 9 0)], (.cells 111 [.vec 5, .vec 6, .vec 7, .vec 8] :: .dead :: .dead :: .dead :: .dead :: oV b1 (b2.set ((Z5 a1.target b1 b2 b3 b4).toNat) (⟨(b2.getD ((Z5 a1.target b1 b2 b3 b4).toNat) default).name, ((b2.getD ((Z5 a1.target b1 b2 b3 b4).toNat) default).size), (b2.getD ((Z5 a1.target b1 b2 b3 b4).toNat) default).zone, ((b2.getD ((Z5 a1.target b1 b2 b3 b4).toNat) default).tag), Z95 ((b2.getD ((Z5 a1.target b1 b2 b3 b4).toNat) default).nodes) a1.node⟩ : XVol)) b3 b4 [.cells 52 [.int .i64 0, .int .i64 0, .str (⟨#[]⟩ : BA), .int .u64 0]])⟩) [0, 1, 2, 3, 4, 6, 7, 8, 9, 5] (by kernel_rfl) (by kernel_rfl) (by kernel_rfl) (by kernel_rfl)), trivial, .inl (by (try rw [hF]); kernel_rfl), by (try rw [hF]); kernel_rfl⟩
         · have hF : Z17 a1 b1 b2 b3 b4 = ((default : XRes), b1, b2, b3, b4) := by first | exact (Z3 h0 (Z3 h1 (Z3 h2 (Z12 h3 (Z3 h4 rfl))))) | simp only [Z17, h0, h1, h2, h3, h4, cond_true, cond_false]
           exact ⟨_, ((((Turn.moveC 0 0 1 6 rfl rfl rfl (by simp [hset, oM, oV])).trans (Turn.moveC 0 1 2 7 rfl rfl rfl (by simp [hset, oM, oV]))).trans (Turn.moveC 0 2 3 8 rfl rfl rfl (by simp [hset, oM, oV]))).trans (Turn.moveC 0 3 4 9 rfl rfl rfl (by simp [hset, oM, oV]))).trans (Turn.fits (p := ⟨Za 167 [(4, .ptr 9 0)], (.cells 111 [.vec 5, .vec 6, .vec 7, .vec 8] :: .dead :: .dead :: .dead :: .dead :: oV b1 b2 b3 b4 [.cells 52 [.int .i64 0, .int .i64 0, .str (⟨#[]⟩ : BA), .int .u64 0]])⟩) [0, 1, 2, 3, 4, 6, 7, 8, 9, 5] (by kernel_rfl) (by kernel_rfl) (by kernel_rfl) (by kernel_rfl)), trivial, .inl (by (try rw [hF]); kernel_rfl), by (try rw [hF]); kernel_rfl⟩
       · refine ⟨fun h4 => ?_, fun h4 => ?_⟩
         · refine ⟨(by (iterate 4 refine Z2 (by (try refine fun (_ : _ = _) => ?_); (try have hq := rngs a1 b1 b2 b3 b4); (try simp only [decide_eq_true_eq, decide_eq_false_iff_not, Bool.not_eq_false'] at *); first | omega | (constructor <;> omega)) ?_); (iterate 2 refine Z2 (by assumption) ?_); refine Z2 (by (try refine fun (_ : _ = _) => ?_); (try have hq := rngs a1 b1 b2 b3 b4); (try simp only [decide_eq_true_eq, decide_eq_false_iff_not, Bool.not_eq_false'] at *); first | omega | (constructor <;> omega)) ?_; exact Z9), ?_⟩
           have hF : Z17 a1 b1 b2 b3 b4 = (((Z20 (Z5 a1.target b1 b2 b3 b4) a1 b1 b2 b3 b4).1), (Z20 (Z5 a1.target b1 b2 b3 b4) a1 b1 b2 b3 b4).2.1, (Z20 (Z5 a1.target b1 b2 b3 b4) a1 b1 b2 b3 b4).2.2, b3, b4) := by first | exact (Z3 h0 (Z3 h1 (Z3 h2 (Z3 h3 (Z12 h4 rfl))))) | simp only [Z17, h0, h1, h2, h3, h4, cond_true, cond_false]
           exact ⟨_, ((((Turn.moveC 0 0 1 6 rfl rfl rfl (by simp [hset, oM, oV])).trans (Turn.moveC 0 1 2 7 rfl rfl rfl (by simp [hset, oM, oV]))).trans (Turn.moveC 0 2 3 8 rfl rfl rfl (by simp [hset, oM, oV]))).trans (Turn.moveC 0 3 4 9 rfl rfl rfl (by simp [hset, oM, oV]))).trans (Turn.fits (p := ⟨Za 167 [(4, .ptr 9 0)], (.cells 111 [.vec 5, .vec 6, .vec 7, .vec 8] :: .dead :: .dead :: .dead :: .dead :: oV ((Z20 (Z5 a1.target b1 b2 b3 b4) a1 b1 b2 b3 b4).2.1) ((Z20 (Z5 a1.target b1 b2 b3 b4) a1 b1 b2 b3 b4).2.2) b3 b4 [.cells 52 [.int .i64 (((Z20 (Z5 a1.target b1 b2 b3 b4) a1 b1 b2 b3 b4).1).err), .int .i64 (((Z20 (Z5 a1.target b1 b2 b3 b4) a1 b1 b2 b3 b4).1).size), .str (((Z20 (Z5 a1.target b1 b2 b3 b4) a1 b1 b2 b3 b4).1).zone), .int .u64 (((Z20 (Z5 a1.target b1 b2 b3 b4) a1 b1 b2 b3 b4).1).tag)]])⟩) [0, 1, 2, 3, 4, 6, 7, 8, 9, 5] (by kernel_rfl) (by kernel_rfl) (by kernel_rfl) (by kernel_rfl)), trivial, .inl (by (try rw [hF]); kernel_rfl), by (try rw [hF]); kernel_rfl⟩
         · refine ⟨fun h5 => ?_, fun h5 => ?_⟩
           · refine ⟨(by (iterate 4 refine Z2 (by (try refine fun (_ : _ = _) => ?_); (try have hq := rngs a1 b1 b2 b3 b4); (try simp only [decide_eq_true_eq, decide_eq_false_iff_not, Bool.not_eq_false'] at *); first | omega | (constructor <;> omega)) ?_); (iterate 2 refine Z2 (by assumption) ?_); exact Z9), ?_⟩
             have hF : Z17 a1 b1 b2 b3 b4 = (((Z33 a1 b1 b2 b3 b4).1), (Z33 a1 b1 b2 b3 b4).2.1, (Z33 a1 b1 b2 b3 b4).2.2.1, (Z33 a1 b1 b2 b3 b4).2.2.2.1, (Z33 a1 b1 b2 b3 b4).2.2.2.2) := by first | exact (Z3 h0 (Z3 h1 (Z3 h2 (Z3 h3 (Z3 h4 (Z12 h5 rfl)))))) | simp only [Z17, h0, h1, h2, h3, h4, h5, cond_true, cond_false]
             exact ⟨_, ((((Turn.moveC 0 0 6 10 rfl rfl rfl (by simp [hset, oM, oV])).trans (Turn.moveC 0 1 7 11 rfl rfl rfl (by simp [hset, oM, oV]))).trans (Turn.moveC 0 2 8 12 rfl rfl rfl (by simp [hset, oM, oV]))).trans (Turn.moveC 0 3 9 13 rfl rfl rfl (by simp [hset, oM, oV]))).trans (Turn.fits (p := ⟨Za 167 [(4, .ptr 9 0)], (.cells 111 [.vec 5, .vec 6, .vec 7, .vec 8] :: .dead :: .dead :: .dead :: .dead :: oV ((Z33 a1 b1 b2 b3 b4).2.1) ((Z33 a1 b1 b2 b3 b4).2.2.1) ((Z33 a1 b1 b2 b3 b4).2.2.2.1) ((Z33 a1 b1 b2 b3 b4).2.2.2.2) [.cells 52 [.int .i64 (((Z33 a1 b1 b2 b3 b4).1).err), .int .i64 (((Z33 a1 b1 b2 b3 b4).1).size), .str (((Z33 a1 b1 b2 b3 b4).1).zone), .int .u64 (((Z33 a1 b1 b2 b3 b4).1).tag)]])⟩) [0, 1, 2, 3, 4, 10, 11, 12, 13, 5] (by kernel_rfl) (by kernel_rfl) (by kernel_rfl) (by kernel_rfl)), trivial, .inl (by (try rw [hF]); kernel_rfl), by (try rw [hF]); kernel_rfl⟩
           · refine ⟨(by (iterate 4 refine Z2 (by (try refine fun (_ : _ = _) => ?_); (try have hq := rngs a1 b1 b2 b3 b4); (try simp only [decide_eq_true_eq, decide_eq_false_iff_not, Bool.not_eq_false'] at *); first | omega | (constructor <;> omega)) ?_); exact Z9), ?_⟩
             refine ⟨fun h6 => ?_, fun h6 => ?_⟩
             · refine ⟨(by refine Z2 (by (try refine fun (_ : _ = _) => ?_); (try have hq := rngs a1 b1 b2 b3 b4); (try simp only [decide_eq_true_eq, decide_eq_false_iff_not, Bool.not_eq_false'] at *); first | omega | (constructor <;> omega)) ?_; refine Z2 (by (try refine fun (_ : _ = _) => ?_); (try have hq := rngs a1 b1 b2 b3 b4); (try simp only [decide_eq_true_eq, decide_eq_false_iff_not, Bool.not_eq_false'] at *); unfold Z18 maxLen; (try simp only [List.length_append, List.length_cons, List.length_nil, List.length_drop, List.length_take]); omega) ?_; (iterate 2 refine Z2 (by (try refine fun (_ : _ = _) => ?_); (try have hq := rngs a1 b1 b2 b3 b4); (try simp only [decide_eq_true_eq, decide_eq_false_iff_not, Bool.not_eq_false'] at *); (try rw [wrap1 (x := Z5 a1.target b1 b2 b3 b4) (by omega) (by omega)]); (try rw [wrap1 (x := Z24 a1.target b1 b2 b3 b4) (by omega) (by omega)]); (try unfold Z18); (try unfold maxLen); (try simp only [List.length_append, List.length_cons, List.length_nil, List.length_drop, List.length_take]); omega) ?_); exact Z9), ?_⟩
               have hF : Z17 a1 b1 b2 b3 b4 = ((default : XRes), b1, b2, (([] ++ ((b3.take ((Z24 a1.target b1 b2 b3 b4).toNat)).drop 0)) ++ ((b3.take ((b3.length : Int).toNat)).drop ((IntKind.i64.wrap ((Z24 a1.target b1 b2 b3 b4) + (1 : Int))).toNat))), b4) := by first | exact (Z3 h0 (Z3 h1 (Z3 h2 (Z3 h3 (Z3 h4 (Z3 h5 (Z12 h6 rfl))))))) | simp only [Z17, h0, h1, h2, h3, h4, h5, h6, cond_true, cond_false]
               exact ⟨_, ((((Turn.moveC 0 0 1 7 rfl rfl rfl (by simp [hset, oM, oV])).trans (Turn.moveC 0 1 2 8 rfl rfl rfl (by simp [hset, oM, oV]))).trans (Turn.moveC 0 2 6 9 rfl rfl rfl (by simp [hset, oM, oV]))).trans (Turn.moveC 0 3 4 10 rfl rfl rfl (by simp [hset, oM, oV]))).trans (Turn.fits (p := ⟨Za 167 [(4, .ptr 9 0)], (.cells 111 [.vec 5, .vec 6, .vec 7, .vec 8] :: .dead :: .dead :: .dead :: .dead :: oV b1 b2 (([] ++ ((b3.take ((Z24 a1.target b1 b2 b3 b4).toNat)).drop 0)) ++ ((b3.take ((b3.length : Int).toNat)).drop ((IntKind.i64.wrap ((Z24 a1.target b1 b2 b3 b4) + (1 : Int))).toNat))) b4 [.cells 52 [.int .i64 0, .int .i64 0, .str (⟨#[]⟩ : BA), .int .u64 0]])⟩) [0, 1, 2, 3, 4, 7, 8, 9, 10, 5] (by kernel_rfl) (by kernel_rfl) (by kernel_rfl) (by kernel_rfl)), trivial, .inl (by (try rw [hF]); kernel_rfl), by (try rw [hF]); kernel_rfl⟩
             · have hF : Z17 a1 b1 b2 b3 b4 = ((default : XRes), b1, b2, b3, b4) := by first | exact (Z3 h0 (Z3 h1 (Z3 h2 (Z3 h3 (Z3 h4 (Z3 h5 (Z3 h6 rfl))))))) | simp only [Z17, h0, h1, h2, h3, h4, h5, h6, cond_true, cond_false]
               exact ⟨_, ((((Turn.moveC 0 0 1 6 rfl rfl rfl (by simp [hset, oM, oV])).trans (Turn.moveC 0 1 2 7 rfl rfl rfl (by simp [hset, oM, oV]))).trans (Turn.moveC 0 2 3 8 rfl rfl rfl (by simp [hset, oM, oV]))).trans (Turn.moveC 0 3 4 9 rfl rfl rfl (by simp [hset, oM, oV]))).trans (Turn.fits (p := ⟨Za 167 [(4, .ptr 9 0)], (.cells 111 [.vec 5, .vec 6, .vec 7, .vec 8] :: .dead :: .dead :: .dead :: .dead :: oV b1 b2 b3 b4 [.cells 52 [.int .i64 0, .int .i64 0, .str (⟨#[]⟩ : BA), .int .u64 0]])⟩) [0, 1, 2, 3, 4, 6, 7, 8, 9, 5] (by kernel_rfl) (by kernel_rfl) (by kernel_rfl) (by kernel_rfl)), trivial, .inl (by (try rw [hF]); kernel_rfl), by (try rw [hF]); kernel_rfl⟩
noncomputable def rD_do_fact : Fact Tryz.prog := Z4b 71 Tryz.f71 (by kernel_rfl) rfl (by kernel_rfl) [.c (.ptr 0 0), .st .call] [.cells 111 [.vec 1, .vec 2, .vec 3, .vec 4], .vec false .zone, .vec false .vol, .vec false .snap, .vec false .done] false (fun t u => .agg [.int .i64 (((Z17 t.2.1 u.2.1 u.2.2.1 u.2.2.2.1 u.2.2.2.2.1).1).err), .int .i64 (((Z17 t.2.1 u.2.1 u.2.2.1 u.2.2.2.1 u.2.2.2.2.1).1).size), .str (((Z17 t.2.1 u.2.1 u.2.2.1 u.2.2.2.1 u.2.2.2.2.1).1).zone), .int .u64 (((Z17 t.2.1 u.2.1 u.2.2.1 u.2.2.2.1 u.2.2.2.2.1).1).tag)]) (fun t u => (.cells 111 [.vec 5, .vec 6, .vec 7, .vec 8] :: .dead :: .dead :: .dead :: .dead :: oV ((Z17 t.2.1 u.2.1 u.2.2.1 u.2.2.2.1 u.2.2.2.2.1).2.1) ((Z17 t.2.1 u.2.1 u.2.2.1 u.2.2.2.1 u.2.2.2.2.1).2.2.1) ((Z17 t.2.1 u.2.1 u.2.2.1 u.2.2.2.1 u.2.2.2.2.1).2.2.2.1) ((Z17 t.2.1 u.2.1 u.2.2.1 u.2.2.2.1 u.2.2.2.2.1).2.2.2.2) [])) (fun t u => [u.2.1.length ≤ 1000, u.2.2.1.length ≤ 1000, u.2.2.2.1.length ≤ 1000, u.2.2.2.2.1.length ≤ 1000, ∀ v ∈ u.2.2.1, v.nodes.length ≤ 1000, ∀ v ∈ u.2.2.1, ZHas u.2.1 v.zone])
 (nofun) (fun t u => by kernel_rfl) (fun t u => by kernel_rfl) (fun t u h => rD_doF_tr t.2.1 u.2.1 u.2.2.1 u.2.2.2.1 u.2.2.2.2.1 (h _ mS) (h _ (mN mS)) (h _ (mN (mN mS))) (h _ (mN (mN (mN mS)))) (h _ (mN (mN (mN (mN mS))))) (h _ (mN (mN (mN (mN (mN mS)))))))
end Go.Proofs.YtkledlcmhbjadaaGreat
