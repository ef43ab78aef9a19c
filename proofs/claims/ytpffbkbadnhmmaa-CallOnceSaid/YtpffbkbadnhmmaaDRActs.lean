/- The document's driver: what a call does. -/
import Derived.Test.YtpffbkbadnhmmaaDRCre
set_option linter.unusedVariables false
set_option linter.unusedSimpArgs false
set_option maxRecDepth 100000
namespace Go.Proofs.Ytpffbkbadnhmmaa
open Go Go.Eng
noncomputable def E_r10_with : Env := Z62 (P := Try.prog) [] [] [] ckf
def Z27 (a1 : BA) : List BA → Bool → List BA → Bool × List BA
 | [], v2, v4 => (v2, v4)
 | o :: r, v2, v4 => cond (cond (!v2) (Z43 a1 o || decide (a1 = o)) false)
  (cond (!(decide (o = a1)))
    (Z27 a1 r true ((v4 ++ [a1]) ++ [o]))
    (Z27 a1 r true (v4 ++ [a1])))
  (cond (!(decide (o = a1)))
    (Z27 a1 r v2 (v4 ++ [o]))
    (Z27 a1 r v2 v4))
def Z94 (a0 : List BA) (a1 : BA) (v2 : Bool) (i : Nat) (v4 : List BA) : St :=
 ⟨Z9 48 [(0, .coll ⟨.str, a0⟩), (1, .str a1), (5, .vec 0), (6, .bool v2), (7, .int .i64 (i : Int))], [.vec true ⟨.str, v4⟩]⟩
def Z210 (a0 : List BA) (a1 : BA) (v2 : Bool) (i : Nat) (v4 : List BA) : RT :=
 (.ask (decide ((i : Int) < (a0.length : Int)))
   (.need [((!v2) = true) → (0 ≤ (i : Int) ∧ (i : Int) < (a0.length : Int))]
     (.ask (cond (!v2) (Z43 a1 (a0.getD i default) || decide (a1 = (a0.getD i default))) false)
       (.need [(v4.length + [a1].length) * 16 ≤ Z16 ∧ v4.length + [a1].length ≤ maxLen]
         (.need [0 ≤ (i : Int) ∧ (i : Int) < (a0.length : Int)]
           (.ask (!(decide ((a0.getD i default) = a1)))
             (.need [0 ≤ (i : Int) ∧ (i : Int) < (a0.length : Int)]
               (.need [((v4 ++ [a1]).length + [(a0.getD i default)].length) * 16 ≤ Z16 ∧ (v4 ++ [a1]).length + [(a0.getD i default)].length ≤ maxLen]
                 (.leaf .normal ⟨Z9 48 [(0, .coll ⟨.str, a0⟩), (1, .str a1), (5, .vec 0), (6, .bool true), (7, .int .i64 (IntKind.i64.wrap ((i : Int) + (1 : Int))))], [.vec true ⟨.str, ((v4 ++ [a1]) ++ [(a0.getD i default)])⟩]⟩ [4])))
             (.leaf .normal ⟨Z9 48 [(0, .coll ⟨.str, a0⟩), (1, .str a1), (5, .vec 0), (6, .bool true), (7, .int .i64 (IntKind.i64.wrap ((i : Int) + (1 : Int))))], [.vec true ⟨.str, (v4 ++ [a1])⟩]⟩ [2]))))
       (.need [0 ≤ (i : Int) ∧ (i : Int) < (a0.length : Int)]
         (.ask (!(decide ((a0.getD i default) = a1)))
           (.need [0 ≤ (i : Int) ∧ (i : Int) < (a0.length : Int)]
             (.need [(v4.length + [(a0.getD i default)].length) * 16 ≤ Z16 ∧ v4.length + [(a0.getD i default)].length ≤ maxLen]
               (.leaf .normal ⟨Z9 48 [(0, .coll ⟨.str, a0⟩), (1, .str a1), (5, .vec 0), (6, .bool v2), (7, .int .i64 (IntKind.i64.wrap ((i : Int) + (1 : Int))))], [.vec true ⟨.str, (v4 ++ [(a0.getD i default)])⟩]⟩ [2])))
           (.leaf .normal ⟨Z9 48 [(0, .coll ⟨.str, a0⟩), (1, .str a1), (5, .vec 0), (6, .bool v2), (7, .int .i64 (IntKind.i64.wrap ((i : Int) + (1 : Int))))], [.vec true ⟨.str, v4⟩]⟩ [])))))
   (.leaf (.exit 0) ⟨Z9 48 [(1, .str a1), (5, .vec 0), (6, .bool v2)], [.vec true ⟨.str, v4⟩]⟩ []))
def Z7d (a0 : List BA) (a1 : BA) (v2 : Bool) (i : Nat) (v4 : List BA) : Tree :=
 .leaf (.exit 0) ⟨Z9 48 [(1, .str a1), (5, .vec 0), (6, .bool ((Z27 a1 (a0.drop i) v2 v4).1))], [.vec true ⟨.str, (Z27 a1 (a0.drop i) v2 v4).2⟩]⟩
theorem r10_withL_loop (a0 : List BA) (a1 : BA) (hp0 : a0.length ≤ 1000) (hlen : a0.length < 4611686018427387904) (z : { z : Bool × Nat × List BA // z.2.1 ≤ a0.length ∧ z.2.2.length ≤ 2 * z.2.1 }) (Q : Exit → St → Prop) (h : (Z7d a0 a1 z.1.1 z.1.2.1 z.1.2.2).All Q) : Tr Try.prog 0 (.loop (Z47 Try.f110 0)) (Z94 a0 a1 z.1.1 z.1.2.1 z.1.2.2) Q := by
 refine Z61 (kok _ _ _ _ _ _) (E := E_r10_with) (ι := { z : Bool × Nat × List BA // z.2.1 ≤ a0.length ∧ z.2.2.length ≤ 2 * z.2.1 }) 60 0 (fun _ => Z30) (fun z => Z94 a0 a1 z.1.1 z.1.2.1 z.1.2.2) (fun z => Z7d a0 a1 z.1.1 z.1.2.1 z.1.2.2) (fun z => Z210 a0 a1 z.1.1 z.1.2.1 z.1.2.2) (fun z => a0.length - z.1.2.1) (fun _ => Z13.none) (fun z => by obtain ⟨⟨v2, i, v4⟩, hi⟩ := z; kernel_rfl) (fun z => by obtain ⟨⟨v2, i, v4⟩, hi⟩ := z; kernel_rfl) (fun z => by obtain ⟨⟨v2, i, v4⟩, hi⟩ := z; kernel_rfl) ?_ z Q h
 rintro ⟨⟨v2, i, v4⟩, hi⟩ Q hT
 replace hT : (Z7d a0 a1 v2 i v4).All Q := hT
 replace hi : i ≤ a0.length ∧ v4.length ≤ 2 * i := hi
 show (Z210 a0 a1 v2 i v4).All _
 unfold Z210
 refine ⟨fun h0 => ?_, fun h0 => ?_⟩
 · have hlt : i < a0.length := by simpa using h0
   have hd := Z64 hlt
   have hw := Z50 (i := i) (by omega)
   refine ⟨Z2 (by (try refine fun (_ : _ = _) => ?_); first | omega | (constructor <;> omega)) (Z7), ?_⟩
   refine ⟨fun h1 => ?_, fun h1 => ?_⟩
   · refine ⟨Z2 (by (try refine fun (_ : _ = _) => ?_); unfold Z16 maxLen; (try simp only [List.length_append, List.length_cons, List.length_nil, List.length_drop, List.length_take]); omega) (Z7), ?_⟩
     refine ⟨Z2 (by (try refine fun (_ : _ = _) => ?_); first | omega | (constructor <;> omega)) (Z7), ?_⟩
     refine ⟨fun h2 => ?_, fun h2 => ?_⟩
     · refine ⟨Z2 (by (try refine fun (_ : _ = _) => ?_); first | omega | (constructor <;> omega)) (Z7), ?_⟩
       refine ⟨Z2 (by (try refine fun (_ : _ = _) => ?_); unfold Z16 maxLen; (try simp only [List.length_append, List.length_cons, List.length_nil, List.length_drop, List.length_take]); omega) (Z7), ?_⟩
       have hF : Z27 a1 (a0.drop i) v2 v4 = Z27 a1 (a0.drop (i + 1)) true ((v4 ++ [a1]) ++ [(a0.getD i default)]) := by rw [hd]; first | exact (Z11 h1 (Z11 h2 rfl)) | simp only [Z27, h0, h1, h2, cond_true, cond_false]
       refine ⟨⟨(true, (i + 1), ((v4 ++ [a1]) ++ [(a0.getD i default)])), by (first | dsimp only | skip); constructor <;> (try simp only [List.length_append, List.length_cons, List.length_nil]) <;> omega⟩, by show a0.length - (i + 1) < a0.length - i; omega, ?_, ?_⟩
       · show _ = Z94 a0 a1 true (i + 1) ((v4 ++ [a1]) ++ [(a0.getD i default)])
         unfold Z94
         simp only [hw]
       · show (Z7d a0 a1 true (i + 1) ((v4 ++ [a1]) ++ [(a0.getD i default)])).All Q
         unfold Z7d at hT ⊢
         rw [hF] at hT
         exact hT
     · have hF : Z27 a1 (a0.drop i) v2 v4 = Z27 a1 (a0.drop (i + 1)) true (v4 ++ [a1]) := by rw [hd]; first | exact (Z11 h1 (Z3 h2 rfl)) | simp only [Z27, h0, h1, h2, cond_true, cond_false]
       refine ⟨⟨(true, (i + 1), (v4 ++ [a1])), by (first | dsimp only | skip); constructor <;> (try simp only [List.length_append, List.length_cons, List.length_nil]) <;> omega⟩, by show a0.length - (i + 1) < a0.length - i; omega, ?_, ?_⟩
       · show _ = Z94 a0 a1 true (i + 1) (v4 ++ [a1])
         unfold Z94
         simp only [hw]
       · show (Z7d a0 a1 true (i + 1) (v4 ++ [a1])).All Q
         unfold Z7d at hT ⊢
         rw [hF] at hT
         exact hT
   · refine ⟨Z2 (by (try refine fun (_ : _ = _) => ?_); first | omega | (constructor <;> omega)) (Z7), ?_⟩
     refine ⟨fun h2 => ?_, fun h2 => ?_⟩
     · refine ⟨Z2 (by (try refine fun (_ : _ = _) => ?_); first | omega | (constructor <;> omega)) (Z7), ?_⟩
       refine ⟨Z2 (by (try refine fun (_ : _ = _) => ?_); unfold Z16 maxLen; (try simp only [List.length_append, List.length_cons, List.length_nil, List.length_drop, List.length_take]); omega) (Z7), ?_⟩
       have hF : Z27 a1 (a0.drop i) v2 v4 = Z27 a1 (a0.drop (i + 1)) v2 (v4 ++ [(a0.getD i default)]) := by rw [hd]; first | exact (Z3 h1 (Z11 h2 rfl)) | simp only [Z27, h0, h1, h2, cond_true, cond_false]
       refine ⟨⟨(v2, (i + 1), (v4 ++ [(a0.getD i default)])), by (first | dsimp only | skip); constructor <;> (try simp only [List.length_append, List.length_cons, List.length_nil]) <;> omega⟩, by show a0.length - (i + 1) < a0.length - i; omega, ?_, ?_⟩
       · show _ = Z94 a0 a1 v2 (i + 1) (v4 ++ [(a0.getD i default)])
         unfold Z94
         simp only [hw]
       · show (Z7d a0 a1 v2 (i + 1) (v4 ++ [(a0.getD i default)])).All Q
         unfold Z7d at hT ⊢
         rw [hF] at hT
         exact hT
     · have hF : Z27 a1 (a0.drop i) v2 v4 = Z27 a1 (a0.drop (i + 1)) v2 v4 := by rw [hd]; first | exact (Z3 h1 (Z3 h2 rfl)) | simp only [Z27, h0, h1, h2, cond_true, cond_false]
       refine ⟨⟨(v2, (i + 1), v4), by (first | dsimp only | skip); constructor <;> (try simp only [List.length_append, List.length_cons, List.length_nil]) <;> omega⟩, by show a0.length - (i + 1) < a0.length - i; omega, ?_, ?_⟩
       · show _ = Z94 a0 a1 v2 (i + 1) v4
         unfold Z94
         simp only [hw]
       · show (Z7d a0 a1 v2 (i + 1) v4).All Q
         unfold Z7d at hT ⊢
         rw [hF] at hT
         exact hT
 · have hge : ¬ i < a0.length := by simpa using h0
   have hd : a0.drop i = [] := List.drop_eq_nil_of_le (by omega)
   have hF : Z27 a1 (a0.drop i) v2 v4 = (v2, v4) := by rw [hd]; first | exact rfl | simp only [Z27, h0, cond_true, cond_false]
   unfold Z7d at hT
   rw [hF] at hT
   exact hT
theorem Z1db (a1 : BA) : ∀ (l : List BA) (p : Bool) (v : List BA), (Z27 a1 l p v).2.length ≤ v.length + 2 * l.length
 | [], p, v => by simp [Z27]
 | o :: r, p, v => by
  unfold Z27
  rw [List.length_cons]
  simp only [Bool.cond_eq_ite]
  repeat' split
  all_goals
   refine Nat.le_trans (Z1db a1 r _ _) ?_
   (try simp only [List.length_append, List.length_cons, List.length_nil])
   omega
def Z9d (a0 : List BA) (a1 : BA) : List BA :=
 cond (!((Z27 a1 a0 false []).1))
  (((Z27 a1 a0 false []).2) ++ [a1])
  ((Z27 a1 a0 false []).2)
def r10_withR (a0 : List BA) (a1 : BA) : RT :=
 (.ask (!((Z27 a1 a0 false []).1))
   (.need [(((Z27 a1 a0 false []).2).length + [a1].length) * 16 ≤ Z16 ∧ ((Z27 a1 a0 false []).2).length + [a1].length ≤ maxLen]
     (.leaf .ret ⟨Z9 48 [(4, .vec 0)], [.vec true ⟨.str, (((Z27 a1 a0 false []).2) ++ [a1])⟩]⟩ [2]))
   (.leaf .ret ⟨Z9 48 [(4, .vec 0)], [.vec true ⟨.str, (Z27 a1 a0 false []).2⟩]⟩ []))
theorem r10_withF_tr (a0 : List BA) (a1 : BA) (hp0 : a0.length ≤ 1000) : Tr Try.prog 0 (Z3b Try.f110) (Z25 Try.f110 [.coll ⟨.str, a0⟩, .str a1] []) (Z46 Try.prog Try.f110 (.vec 0) [.vec true ⟨.str, Z9d a0 a1⟩]) := by
 refine Z2f (kok _ _ _ _ _ _) (E := E_r10_with) (L := (Z5f [(0, Z94 a0 a1 false 0 [], [1], Z7d a0 a1 false 0 [])])) 60 9999 (Z13.one (g := Z47 Try.f110 0) (b := 0) (by kernel_rfl) (by kernel_rfl) (by kernel_rfl) (by kernel_rfl) (fun Q h => r10_withL_loop a0 a1 hp0 (by omega) ⟨(false, 0, []), ⟨Nat.zero_le _, Nat.zero_le _⟩⟩ Q h)) (r10_withR a0 a1) (by kernel_rfl) (by kernel_rfl) (by kernel_rfl) ?_
 unfold r10_withR
 refine ⟨fun h0 => ?_, fun h0 => ?_⟩
 · refine ⟨Z2 (by (try refine fun (_ : _ = _) => ?_); (try have h80 := Z1db a1 a0 false []); (try simp only [List.length_nil] at *); unfold Z16 maxLen; (try simp only [List.length_append, List.length_cons, List.length_nil, List.length_drop, List.length_take]); omega) (Z7), ?_⟩
   have hF : Z9d a0 a1 = (((Z27 a1 a0 false []).2) ++ [a1]) := by first | exact (Z11 h0 rfl) | simp only [Z9d, h0, cond_true, cond_false]
   exact ⟨trivial, .inl (by (try rw [hF]); kernel_rfl), by (try rw [hF]); kernel_rfl⟩
 · have hF : Z9d a0 a1 = ((Z27 a1 a0 false []).2) := by first | exact (Z3 h0 rfl) | simp only [Z9d, h0, cond_true, cond_false]
   exact ⟨trivial, .inl (by (try rw [hF]); kernel_rfl), by (try rw [hF]); kernel_rfl⟩
noncomputable def r10_with_fact : Fact Try.prog := Z4f 110 Try.f110 (by kernel_rfl) rfl (by kernel_rfl) [.c (.coll .str), .c (.str)] [] false (fun t u => .vec 0) (fun t u => [.vec true ⟨.str, Z9d t.1 t.2.1⟩]) (fun t u => [t.1.length ≤ 1000])
 (nofun) (fun t u => by kernel_rfl) (fun t u => by kernel_rfl) (fun t u h => r10_withF_tr t.1 t.2.1 (h _ mS))
noncomputable def Z1f6 : Env := Z62 (P := Try.prog) [] [] [] ckf
def Z49 (a1 : BA) : List BA → List BA → List BA
 | [], v3 => v3
 | o :: r, v3 => cond (!(decide (o = a1)))
  (Z49 a1 r (v3 ++ [o]))
  (Z49 a1 r v3)
def Z9b (a0 : List BA) (a1 : BA) (i : Nat) (v3 : List BA) : St :=
 ⟨Z9 27 [(0, .coll ⟨.str, a0⟩), (1, .str a1), (5, .vec 0), (6, .int .i64 (i : Int))], [.vec true ⟨.str, v3⟩]⟩
def Z12e (a0 : List BA) (a1 : BA) (i : Nat) (v3 : List BA) : RT :=
 (.ask (decide ((i : Int) < (a0.length : Int)))
   (.need [0 ≤ (i : Int) ∧ (i : Int) < (a0.length : Int)]
     (.ask (!(decide ((a0.getD i default) = a1)))
       (.need [0 ≤ (i : Int) ∧ (i : Int) < (a0.length : Int)]
         (.need [(v3.length + [(a0.getD i default)].length) * 16 ≤ Z16 ∧ v3.length + [(a0.getD i default)].length ≤ maxLen]
           (.leaf .normal ⟨Z9 27 [(0, .coll ⟨.str, a0⟩), (1, .str a1), (5, .vec 0), (6, .int .i64 (IntKind.i64.wrap ((i : Int) + (1 : Int))))], [.vec true ⟨.str, (v3 ++ [(a0.getD i default)])⟩]⟩ [2])))
       (.leaf .normal ⟨Z9 27 [(0, .coll ⟨.str, a0⟩), (1, .str a1), (5, .vec 0), (6, .int .i64 (IntKind.i64.wrap ((i : Int) + (1 : Int))))], [.vec true ⟨.str, v3⟩]⟩ [])))
   (.leaf (.exit 0) ⟨Z9 27 [(5, .vec 0)], [.vec true ⟨.str, v3⟩]⟩ []))
def Z7a (a0 : List BA) (a1 : BA) (i : Nat) (v3 : List BA) : Tree :=
 .leaf (.exit 0) ⟨Z9 27 [(5, .vec 0)], [.vec true ⟨.str, Z49 a1 (a0.drop i) v3⟩]⟩
theorem Z20f (a0 : List BA) (a1 : BA) (hp0 : a0.length ≤ 1000) (hlen : a0.length < 4611686018427387904) (z : { z : Nat × List BA // z.1 ≤ a0.length ∧ z.2.length ≤ 2 * z.1 }) (Q : Exit → St → Prop) (h : (Z7a a0 a1 z.1.1 z.1.2).All Q) : Tr Try.prog 0 (.loop (Z47 Try.f111 0)) (Z9b a0 a1 z.1.1 z.1.2) Q := by
 refine Z61 (kok _ _ _ _ _ _) (E := Z1f6) (ι := { z : Nat × List BA // z.1 ≤ a0.length ∧ z.2.length ≤ 2 * z.1 }) 60 0 (fun _ => Z30) (fun z => Z9b a0 a1 z.1.1 z.1.2) (fun z => Z7a a0 a1 z.1.1 z.1.2) (fun z => Z12e a0 a1 z.1.1 z.1.2) (fun z => a0.length - z.1.1) (fun _ => Z13.none) (fun z => by obtain ⟨⟨i, v3⟩, hi⟩ := z; kernel_rfl) (fun z => by obtain ⟨⟨i, v3⟩, hi⟩ := z; kernel_rfl) (fun z => by obtain ⟨⟨i, v3⟩, hi⟩ := z; kernel_rfl) ?_ z Q h
 rintro ⟨⟨i, v3⟩, hi⟩ Q hT
 replace hT : (Z7a a0 a1 i v3).All Q := hT
 replace hi : i ≤ a0.length ∧ v3.length ≤ 2 * i := hi
 show (Z12e a0 a1 i v3).All _
 unfold Z12e
 refine ⟨fun h0 => ?_, fun h0 => ?_⟩
 · have hlt : i < a0.length := by simpa using h0
   have hd := Z64 hlt
   have hw := Z50 (i := i) (by omega)
   refine ⟨Z2 (by (try refine fun (_ : _ = _) => ?_); first | omega | (constructor <;> omega)) (Z7), ?_⟩
   refine ⟨fun h1 => ?_, fun h1 => ?_⟩
   · refine ⟨Z2 (by (try refine fun (_ : _ = _) => ?_); first | omega | (constructor <;> omega)) (Z7), ?_⟩
     refine ⟨Z2 (by (try refine fun (_ : _ = _) => ?_); unfold Z16 maxLen; (try simp only [List.length_append, List.length_cons, List.length_nil, List.length_drop, List.length_take]); omega) (Z7), ?_⟩
     have hF : Z49 a1 (a0.drop i) v3 = Z49 a1 (a0.drop (i + 1)) (v3 ++ [(a0.getD i default)]) := by rw [hd]; first | exact (Z11 h1 rfl) | simp only [Z49, h0, h1, cond_true, cond_false]
     refine ⟨⟨((i + 1), (v3 ++ [(a0.getD i default)])), by (first | dsimp only | skip); constructor <;> (try simp only [List.length_append, List.length_cons, List.length_nil]) <;> omega⟩, by show a0.length - (i + 1) < a0.length - i; omega, ?_, ?_⟩
     · show _ = Z9b a0 a1 (i + 1) (v3 ++ [(a0.getD i default)])
       unfold Z9b
       simp only [hw]
     · show (Z7a a0 a1 (i + 1) (v3 ++ [(a0.getD i default)])).All Q
       unfold Z7a at hT ⊢
       rw [hF] at hT
       exact hT
   · have hF : Z49 a1 (a0.drop i) v3 = Z49 a1 (a0.drop (i + 1)) v3 := by rw [hd]; first | exact (Z3 h1 rfl) | simp only [Z49, h0, h1, cond_true, cond_false]
     refine ⟨⟨((i + 1), v3), by (first | dsimp only | skip); constructor <;> (try simp only [List.length_append, List.length_cons, List.length_nil]) <;> omega⟩, by show a0.length - (i + 1) < a0.length - i; omega, ?_, ?_⟩
     · show _ = Z9b a0 a1 (i + 1) v3
       unfold Z9b
       simp only [hw]
     · show (Z7a a0 a1 (i + 1) v3).All Q
       unfold Z7a at hT ⊢
       rw [hF] at hT
       exact hT
 · have hge : ¬ i < a0.length := by simpa using h0
   have hd : a0.drop i = [] := List.drop_eq_nil_of_le (by omega)
   have hF : Z49 a1 (a0.drop i) v3 = v3 := by rw [hd]; first | exact rfl | simp only [Z49, h0, cond_true, cond_false]
   unfold Z7a at hT
   rw [hF] at hT
   exact hT
def Z97 (a0 : List BA) (a1 : BA) : List BA :=
 Z49 a1 a0 []
def Z22f (a0 : List BA) (a1 : BA) : RT :=
 (.leaf .ret ⟨Z9 27 [(4, .vec 0)], [.vec true ⟨.str, Z49 a1 a0 []⟩]⟩ [])
theorem r10_withoutF_tr (a0 : List BA) (a1 : BA) (hp0 : a0.length ≤ 1000) : Tr Try.prog 0 (Z3b Try.f111) (Z25 Try.f111 [.coll ⟨.str, a0⟩, .str a1] []) (Z46 Try.prog Try.f111 (.vec 0) [.vec true ⟨.str, Z97 a0 a1⟩]) := by
 refine Z2f (kok _ _ _ _ _ _) (E := Z1f6) (L := (Z5f [(0, Z9b a0 a1 0 [], [1], Z7a a0 a1 0 [])])) 60 9999 (Z13.one (g := Z47 Try.f111 0) (b := 0) (by kernel_rfl) (by kernel_rfl) (by kernel_rfl) (by kernel_rfl) (fun Q h => Z20f a0 a1 hp0 (by omega) ⟨(0, []), ⟨Nat.zero_le _, Nat.zero_le _⟩⟩ Q h)) (Z22f a0 a1) (by kernel_rfl) (by kernel_rfl) (by kernel_rfl) ?_
 unfold Z22f
 exact ⟨trivial, .inl (by kernel_rfl), by kernel_rfl⟩
noncomputable def Z243 : Fact Try.prog := Z4f 111 Try.f111 (by kernel_rfl) rfl (by kernel_rfl) [.c (.coll .str), .c (.str)] [] false (fun t u => .vec 0) (fun t u => [.vec true ⟨.str, Z97 t.1 t.2.1⟩]) (fun t u => [t.1.length ≤ 1000])
 (nofun) (fun t u => by kernel_rfl) (fun t u => by kernel_rfl) (fun t u h => r10_withoutF_tr t.1 t.2.1 (h _ mS))
noncomputable def E_rD_do : Env := Z62 (P := Try.prog) [Z12b, rD_create_fact, Zb8, Z15a, r10_with_fact, Z243, rD_expand_fact, rD_cut_fact, Z15c] [] [] ckf true
def Z1f (a1 : XCall) (b1 : LZ) (b2 : LV) (b3 : LS) (b4 : LQ) : XRes × LZ × LV × LS × LQ :=
 cond (a1.verb == (1 : Int))
  (((Zc a1 b1 b2 b3 b4).1), (Zc a1 b1 b2 b3 b4).2.1, (Zc a1 b1 b2 b3 b4).2.2.1, (Zc a1 b1 b2 b3 b4).2.2.2.1, (Zc a1 b1 b2 b3 b4).2.2.2.2)
  (cond (a1.verb == (2 : Int))
    (cond (decide ((Z5 a1.target b1 b2 b3 b4) < (0 : Int)))
      ((default : XRes), b1, b2, b3, b4)
      (cond (decide ((((b2.getD ((Z5 a1.target b1 b2 b3 b4).toNat) default).nodes).length : Int) > (0 : Int)))
        ((Z8 (10 : Int)), b1, b2, b3, b4)
        ((default : XRes), (b1.set ((Z14 ((b2.getD ((Z5 a1.target b1 b2 b3 b4).toNat) default).zone) b1 b2 b3 b4).toNat) (⟨(b1.getD ((Z14 ((b2.getD ((Z5 a1.target b1 b2 b3 b4).toNat) default).zone) b1 b2 b3 b4).toNat) default).name, (IntKind.i64.wrap (((b1.getD ((Z14 ((b2.getD ((Z5 a1.target b1 b2 b3 b4).toNat) default).zone) b1 b2 b3 b4).toNat) default).room) + ((b2.getD ((Z5 a1.target b1 b2 b3 b4).toNat) default).size)))⟩ : XZone)), (([] ++ ((b2.take ((Z5 a1.target b1 b2 b3 b4).toNat)).drop 0)) ++ ((b2.take ((b2.length : Int).toNat)).drop ((IntKind.i64.wrap ((Z5 a1.target b1 b2 b3 b4) + (1 : Int))).toNat))), b3, b4)))
    (cond (a1.verb == (3 : Int))
      (cond (decide ((Z5 a1.target b1 b2 b3 b4) < (0 : Int)))
        ((Z8 (5 : Int)), b1, b2, b3, b4)
        ((default : XRes), b1, (b2.set ((Z5 a1.target b1 b2 b3 b4).toNat) (⟨(b2.getD ((Z5 a1.target b1 b2 b3 b4).toNat) default).name, ((b2.getD ((Z5 a1.target b1 b2 b3 b4).toNat) default).size), (b2.getD ((Z5 a1.target b1 b2 b3 b4).toNat) default).zone, ((b2.getD ((Z5 a1.target b1 b2 b3 b4).toNat) default).tag), Z9d ((b2.getD ((Z5 a1.target b1 b2 b3 b4).toNat) default).nodes) a1.node⟩ : XVol)), b3, b4))
      (cond (a1.verb == (4 : Int))
        (cond (decide ((Z5 a1.target b1 b2 b3 b4) ≥ (0 : Int)))
          ((default : XRes), b1, (b2.set ((Z5 a1.target b1 b2 b3 b4).toNat) (⟨(b2.getD ((Z5 a1.target b1 b2 b3 b4).toNat) default).name, ((b2.getD ((Z5 a1.target b1 b2 b3 b4).toNat) default).size), (b2.getD ((Z5 a1.target b1 b2 b3 b4).toNat) default).zone, ((b2.getD ((Z5 a1.target b1 b2 b3 b4).toNat) default).tag), Z97 ((b2.getD ((Z5 a1.target b1 b2 b3 b4).toNat) default).nodes) a1.node⟩ : XVol)), b3, b4)
          ((default : XRes), b1, b2, b3, b4))
        (cond (a1.verb == (5 : Int))
          (((Z1c (Z5 a1.target b1 b2 b3 b4) a1 b1 b2 b3 b4).1), (Z1c (Z5 a1.target b1 b2 b3 b4) a1 b1 b2 b3 b4).2.1, (Z1c (Z5 a1.target b1 b2 b3 b4) a1 b1 b2 b3 b4).2.2, b3, b4)
          (cond (a1.verb == (6 : Int))
            (((Z31 a1 b1 b2 b3 b4).1), (Z31 a1 b1 b2 b3 b4).2.1, (Z31 a1 b1 b2 b3 b4).2.2.1, (Z31 a1 b1 b2 b3 b4).2.2.2.1, (Z31 a1 b1 b2 b3 b4).2.2.2.2)
            (cond (decide ((Z21 a1.target b1 b2 b3 b4) ≥ (0 : Int)))
              ((default : XRes), b1, b2, (([] ++ ((b3.take ((Z21 a1.target b1 b2 b3 b4).toNat)).drop 0)) ++ ((b3.take ((b3.length : Int).toNat)).drop ((IntKind.i64.wrap ((Z21 a1.target b1 b2 b3 b4) + (1 : Int))).toNat))), b4)
              ((default : XRes), b1, b2, b3, b4)))))))
def rD_doR (a1 : XCall) (b1 : LZ) (b2 : LV) (b3 : LS) (b4 : LQ) : RT :=
 (.need [b1.length ≤ 1000, b2.length ≤ 1000, b3.length ≤ 1000, b4.length ≤ 1000]
   (.ask (a1.verb == (1 : Int))
     (.need [b1.length ≤ 1000, b2.length ≤ 1000, b3.length ≤ 1000, b4.length ≤ 1000, ∀ v ∈ b2, v.nodes.length ≤ 1000, ∀ v ∈ b2, ZHas b1 v.zone]
       (.leaf .ret ⟨Z9 167 [(4, .ptr 5 0)], (.cells 106 [.vec 6, .vec 7, .vec 8, .vec 9] :: .dead :: .dead :: .dead :: .dead :: .cells 52 [.int .i64 (((Zc a1 b1 b2 b3 b4).1).err), .int .i64 (((Zc a1 b1 b2 b3 b4).1).size), .str (((Zc a1 b1 b2 b3 b4).1).zone), .int .u64 (((Zc a1 b1 b2 b3 b4).1).tag)] :: oV ((Zc a1 b1 b2 b3 b4).2.1) ((Zc a1 b1 b2 b3 b4).2.2.1) ((Zc a1 b1 b2 b3 b4).2.2.2.1) ((Zc a1 b1 b2 b3 b4).2.2.2.2) [])⟩ [0, 1, 2, 3, 4, 6, 7, 8, 9, 10]))
     (.ask (a1.verb == (2 : Int))
       (.ask (decide ((Z5 a1.target b1 b2 b3 b4) < (0 : Int)))
         (.leaf .ret ⟨Z9 167 [(4, .ptr 5 0)], (.cells 106 [.vec 1, .vec 2, .vec 3, .vec 4] :: oV b1 b2 b3 b4 [.cells 52 [.int .i64 0, .int .i64 0, .str (⟨#[]⟩ : BA), .int .u64 0]])⟩ [0, 1, 2, 3, 4, 6])
         (.need [0 ≤ (Z5 a1.target b1 b2 b3 b4) ∧ (Z5 a1.target b1 b2 b3 b4) < (b2.length : Int)]
           (.ask (decide ((((b2.getD ((Z5 a1.target b1 b2 b3 b4).toNat) default).nodes).length : Int) > (0 : Int)))
             (.leaf .ret ⟨Z9 167 [(4, .ptr 5 0)], (.cells 106 [.vec 1, .vec 2, .vec 3, .vec 4] :: oV b1 b2 b3 b4 [.cells 52 [.int .i64 ((Z8 (10 : Int)).err), .int .i64 ((Z8 (10 : Int)).size), .str ((Z8 (10 : Int)).zone), .int .u64 ((Z8 (10 : Int)).tag)]])⟩ [0, 1, 2, 3, 4, 6])
             (.need [0 ≤ (Z5 a1.target b1 b2 b3 b4) ∧ (Z5 a1.target b1 b2 b3 b4) < (b2.length : Int), b1.length ≤ 1000, b2.length ≤ 1000, b3.length ≤ 1000, b4.length ≤ 1000, 0 ≤ (Z14 ((b2.getD ((Z5 a1.target b1 b2 b3 b4).toNat) default).zone) b1 b2 b3 b4) ∧ (Z14 ((b2.getD ((Z5 a1.target b1 b2 b3 b4).toNat) default).zone) b1 b2 b3 b4) < (b1.length : Int), 0 ≤ (Z5 a1.target b1 b2 b3 b4) ∧ (Z5 a1.target b1 b2 b3 b4) < (b2.length : Int), 0 ≤ (Z14 ((b2.getD ((Z5 a1.target b1 b2 b3 b4).toNat) default).zone) b1 b2 b3 b4) ∧ (Z14 ((b2.getD ((Z5 a1.target b1 b2 b3 b4).toNat) default).zone) b1 b2 b3 b4) < (b1.length : Int)]
               (.need [0 ≤ (0 : Int) ∧ (0 : Int) ≤ (Z5 a1.target b1 b2 b3 b4) ∧ (Z5 a1.target b1 b2 b3 b4) ≤ (b2.length : Int), (([] : LV).length + ((b2.take ((Z5 a1.target b1 b2 b3 b4).toNat)).drop 0).length) * 72 ≤ Z16 ∧ ([] : LV).length + ((b2.take ((Z5 a1.target b1 b2 b3 b4).toNat)).drop 0).length ≤ maxLen, 0 ≤ (IntKind.i64.wrap ((Z5 a1.target b1 b2 b3 b4) + (1 : Int))) ∧ (IntKind.i64.wrap ((Z5 a1.target b1 b2 b3 b4) + (1 : Int))) ≤ (b2.length : Int) ∧ (b2.length : Int) ≤ (b2.length : Int), (([] ++ ((b2.take ((Z5 a1.target b1 b2 b3 b4).toNat)).drop 0)).length + ((b2.take ((b2.length : Int).toNat)).drop ((IntKind.i64.wrap ((Z5 a1.target b1 b2 b3 b4) + (1 : Int))).toNat)).length) * 72 ≤ Z16 ∧ ([] ++ ((b2.take ((Z5 a1.target b1 b2 b3 b4).toNat)).drop 0)).length + ((b2.take ((b2.length : Int).toNat)).drop ((IntKind.i64.wrap ((Z5 a1.target b1 b2 b3 b4) + (1 : Int))).toNat)).length ≤ maxLen]
                 (.leaf .ret ⟨Z9 167 [(4, .ptr 5 0)], (.cells 106 [.vec 1, .vec 6, .vec 3, .vec 4] :: oV (b1.set ((Z14 ((b2.getD ((Z5 a1.target b1 b2 b3 b4).toNat) default).zone) b1 b2 b3 b4).toNat) (⟨(b1.getD ((Z14 ((b2.getD ((Z5 a1.target b1 b2 b3 b4).toNat) default).zone) b1 b2 b3 b4).toNat) default).name, (IntKind.i64.wrap (((b1.getD ((Z14 ((b2.getD ((Z5 a1.target b1 b2 b3 b4).toNat) default).zone) b1 b2 b3 b4).toNat) default).room) + ((b2.getD ((Z5 a1.target b1 b2 b3 b4).toNat) default).size)))⟩ : XZone)) b2 b3 b4 [.cells 52 [.int .i64 0, .int .i64 0, .str (⟨#[]⟩ : BA), .int .u64 0], .vec false ⟨.vol, (([] ++ ((b2.take ((Z5 a1.target b1 b2 b3 b4).toNat)).drop 0)) ++ ((b2.take ((b2.length : Int).toNat)).drop ((IntKind.i64.wrap ((Z5 a1.target b1 b2 b3 b4) + (1 : Int))).toNat)))⟩])⟩ [0, 1, 2, 3, 4, 6, 9]))))))
       (.ask (a1.verb == (3 : Int))
         (.ask (decide ((Z5 a1.target b1 b2 b3 b4) < (0 : Int)))
           (.leaf .ret ⟨Z9 167 [(4, .ptr 5 0)], (.cells 106 [.vec 1, .vec 2, .vec 3, .vec 4] :: oV b1 b2 b3 b4 [.cells 52 [.int .i64 ((Z8 (5 : Int)).err), .int .i64 ((Z8 (5 : Int)).size), .str ((Z8 (5 : Int)).zone), .int .u64 ((Z8 (5 : Int)).tag)]])⟩ [0, 1, 2, 3, 4, 6])
           (.need [0 ≤ (Z5 a1.target b1 b2 b3 b4) ∧ (Z5 a1.target b1 b2 b3 b4) < (b2.length : Int), ((b2.getD ((Z5 a1.target b1 b2 b3 b4).toNat) default).nodes).length ≤ 1000, 0 ≤ (Z5 a1.target b1 b2 b3 b4) ∧ (Z5 a1.target b1 b2 b3 b4) < (b2.length : Int)]
             (.leaf .ret ⟨Z9 167 [(4, .ptr 5 0)], (.cells 106 [.vec 1, .vec 2, .vec 3, .vec 4] :: oV b1 (b2.set ((Z5 a1.target b1 b2 b3 b4).toNat) (⟨(b2.getD ((Z5 a1.target b1 b2 b3 b4).toNat) default).name, ((b2.getD ((Z5 a1.target b1 b2 b3 b4).toNat) default).size), (b2.getD ((Z5 a1.target b1 b2 b3 b4).toNat) default).zone, ((b2.getD ((Z5 a1.target b1 b2 b3 b4).toNat) default).tag), Z9d ((b2.getD ((Z5 a1.target b1 b2 b3 b4).toNat) default).nodes) a1.node⟩ : XVol)) b3 b4 [.cells 52 [.int .i64 0, .int .i64 0, .str (⟨#[]⟩ : BA), .int .u64 0]])⟩ [0, 1, 2, 3, 4, 6])))
         (.ask (a1.verb == (4 : Int))
           (.ask (decide ((Z5 a1.target b1 b2 b3 b4) ≥ (0 : Int)))
             (.need [0 ≤ (Z5 a1.target b1 b2 b3 b4) ∧ (Z5 a1.target b1 b2 b3 b4) < (b2.length : Int), ((b2.getD ((Z5 a1.target b1 b2 b3 b4).toNat) default).nodes).length ≤ 1000, 0 ≤ (Z5 a1.target b1 b2 b3 b4) ∧ (Z5 a1.target b1 b2 b3 b4) < (b2.length : Int)]
               (.leaf .ret ⟨Z9 167 [(4, .ptr 5 0)], (.cells 106 [.vec 1, .vec 2, .vec 3, .vec 4] :: oV b1 (b2.set ((Z5 a1.target b1 b2 b3 b4).toNat) (⟨(b2.getD ((Z5 a1.target b1 b2 b3 b4).toNat) default).name, ((b2.getD ((Z5 a1.target b1 b2 b3 b4).toNat) default).size), (b2.getD ((Z5 a1.target b1 b2 b3 b4).toNat) default).zone, ((b2.getD ((Z5 a1.target b1 b2 b3 b4).toNat) default).tag), Z97 ((b2.getD ((Z5 a1.target b1 b2 b3 b4).toNat) default).nodes) a1.node⟩ : XVol)) b3 b4 [.cells 52 [.int .i64 0, .int .i64 0, .str (⟨#[]⟩ : BA), .int .u64 0]])⟩ [0, 1, 2, 3, 4, 6]))
             (.leaf .ret ⟨Z9 167 [(4, .ptr 5 0)], (.cells 106 [.vec 1, .vec 2, .vec 3, .vec 4] :: oV b1 b2 b3 b4 [.cells 52 [.int .i64 0, .int .i64 0, .str (⟨#[]⟩ : BA), .int .u64 0]])⟩ [0, 1, 2, 3, 4, 6]))
           (.ask (a1.verb == (5 : Int))
             (.need [b1.length ≤ 1000, b2.length ≤ 1000, b3.length ≤ 1000, b4.length ≤ 1000, ∀ v ∈ b2, v.nodes.length ≤ 1000, ∀ v ∈ b2, ZHas b1 v.zone, (Z5 a1.target b1 b2 b3 b4) < (b2.length : Int)]
               (.leaf .ret ⟨Z9 167 [(4, .ptr 5 0)], (.cells 106 [.vec 1, .vec 2, .vec 3, .vec 4] :: oV ((Z1c (Z5 a1.target b1 b2 b3 b4) a1 b1 b2 b3 b4).2.1) ((Z1c (Z5 a1.target b1 b2 b3 b4) a1 b1 b2 b3 b4).2.2) b3 b4 [.cells 52 [.int .i64 (((Z1c (Z5 a1.target b1 b2 b3 b4) a1 b1 b2 b3 b4).1).err), .int .i64 (((Z1c (Z5 a1.target b1 b2 b3 b4) a1 b1 b2 b3 b4).1).size), .str (((Z1c (Z5 a1.target b1 b2 b3 b4) a1 b1 b2 b3 b4).1).zone), .int .u64 (((Z1c (Z5 a1.target b1 b2 b3 b4) a1 b1 b2 b3 b4).1).tag)]])⟩ [0, 1, 2, 3, 4, 6]))
             (.ask (a1.verb == (6 : Int))
               (.need [b1.length ≤ 1000, b2.length ≤ 1000, b3.length ≤ 1000, b4.length ≤ 1000, ∀ v ∈ b2, v.nodes.length ≤ 1000, ∀ v ∈ b2, ZHas b1 v.zone]
                 (.leaf .ret ⟨Z9 167 [(4, .ptr 5 0)], (.cells 106 [.vec 6, .vec 7, .vec 8, .vec 9] :: .dead :: .dead :: .dead :: .dead :: .cells 52 [.int .i64 (((Z31 a1 b1 b2 b3 b4).1).err), .int .i64 (((Z31 a1 b1 b2 b3 b4).1).size), .str (((Z31 a1 b1 b2 b3 b4).1).zone), .int .u64 (((Z31 a1 b1 b2 b3 b4).1).tag)] :: oV ((Z31 a1 b1 b2 b3 b4).2.1) ((Z31 a1 b1 b2 b3 b4).2.2.1) ((Z31 a1 b1 b2 b3 b4).2.2.2.1) ((Z31 a1 b1 b2 b3 b4).2.2.2.2) [])⟩ [0, 1, 2, 3, 4, 6, 7, 8, 9, 10]))
               (.need [b1.length ≤ 1000, b2.length ≤ 1000, b3.length ≤ 1000, b4.length ≤ 1000]
                 (.ask (decide ((Z21 a1.target b1 b2 b3 b4) ≥ (0 : Int)))
                   (.need [0 ≤ (0 : Int) ∧ (0 : Int) ≤ (Z21 a1.target b1 b2 b3 b4) ∧ (Z21 a1.target b1 b2 b3 b4) ≤ (b3.length : Int), (([] : LS).length + ((b3.take ((Z21 a1.target b1 b2 b3 b4).toNat)).drop 0).length) * 32 ≤ Z16 ∧ ([] : LS).length + ((b3.take ((Z21 a1.target b1 b2 b3 b4).toNat)).drop 0).length ≤ maxLen, 0 ≤ (IntKind.i64.wrap ((Z21 a1.target b1 b2 b3 b4) + (1 : Int))) ∧ (IntKind.i64.wrap ((Z21 a1.target b1 b2 b3 b4) + (1 : Int))) ≤ (b3.length : Int) ∧ (b3.length : Int) ≤ (b3.length : Int), (([] ++ ((b3.take ((Z21 a1.target b1 b2 b3 b4).toNat)).drop 0)).length + ((b3.take ((b3.length : Int).toNat)).drop ((IntKind.i64.wrap ((Z21 a1.target b1 b2 b3 b4) + (1 : Int))).toNat)).length) * 32 ≤ Z16 ∧ ([] ++ ((b3.take ((Z21 a1.target b1 b2 b3 b4).toNat)).drop 0)).length + ((b3.take ((b3.length : Int).toNat)).drop ((IntKind.i64.wrap ((Z21 a1.target b1 b2 b3 b4) + (1 : Int))).toNat)).length ≤ maxLen]
                     (.leaf .ret ⟨Z9 167 [(4, .ptr 5 0)], (.cells 106 [.vec 1, .vec 2, .vec 6, .vec 4] :: oV b1 b2 b3 b4 [.cells 52 [.int .i64 0, .int .i64 0, .str (⟨#[]⟩ : BA), .int .u64 0], .vec false ⟨.snap, (([] ++ ((b3.take ((Z21 a1.target b1 b2 b3 b4).toNat)).drop 0)) ++ ((b3.take ((b3.length : Int).toNat)).drop ((IntKind.i64.wrap ((Z21 a1.target b1 b2 b3 b4) + (1 : Int))).toNat)))⟩])⟩ [0, 1, 2, 3, 4, 6, 9]))
                   (.leaf .ret ⟨Z9 167 [(4, .ptr 5 0)], (.cells 106 [.vec 1, .vec 2, .vec 3, .vec 4] :: oV b1 b2 b3 b4 [.cells 52 [.int .i64 0, .int .i64 0, .str (⟨#[]⟩ : BA), .int .u64 0]])⟩ [0, 1, 2, 3, 4, 6]))))))))))
theorem rD_doF_tr (a1 : XCall) (b1 : LZ) (b2 : LV) (b3 : LS) (b4 : LQ) (hp0 : b1.length ≤ 1000) (hp1 : b2.length ≤ 1000) (hp2 : b3.length ≤ 1000) (hp3 : b4.length ≤ 1000) (hp4 : ∀ v ∈ b2, v.nodes.length ≤ 1000) (hp5 : ∀ v ∈ b2, ZHas b1 v.zone) : Tr Try.prog 5 (Z3b Try.f97) (Z25 Try.f97 [.ptr 0 0, .agg (cc a1)] (.cells 106 [.vec 1, .vec 2, .vec 3, .vec 4] :: oV b1 b2 b3 b4 [])) (Z46 Try.prog Try.f97 (.agg [.int .i64 (((Z1f a1 b1 b2 b3 b4).1).err), .int .i64 (((Z1f a1 b1 b2 b3 b4).1).size), .str (((Z1f a1 b1 b2 b3 b4).1).zone), .int .u64 (((Z1f a1 b1 b2 b3 b4).1).tag)]) (.cells 106 [.vec 5, .vec 6, .vec 7, .vec 8] :: .dead :: .dead :: .dead :: .dead :: oV ((Z1f a1 b1 b2 b3 b4).2.1) ((Z1f a1 b1 b2 b3 b4).2.2.1) ((Z1f a1 b1 b2 b3 b4).2.2.2.1) ((Z1f a1 b1 b2 b3 b4).2.2.2.2) [])) := by
 refine Tr.post ?_
 refine Z2f (kok _ _ _ _ _ _) (E := E_rD_do) (L := Z30) 60 9999 Z13.none (rD_doR a1 b1 b2 b3 b4) (by kernel_rfl) (by kernel_rfl) (by kernel_rfl) ?_
 unfold rD_doR
 refine ⟨(by (iterate 4 refine Z2 (by (try refine fun (_ : _ = _) => ?_); (try have hq := rngs a1 b1 b2 b3 b4); (try simp only [decide_eq_true_eq, decide_eq_false_iff_not, Bool.not_eq_false'] at *); first | omega | (constructor <;> omega)) ?_); exact Z7), ?_⟩
 refine ⟨fun h0 => ?_, fun h0 => ?_⟩
 · refine ⟨(by (iterate 4 refine Z2 (by (try refine fun (_ : _ = _) => ?_); (try have hq := rngs a1 b1 b2 b3 b4); (try simp only [decide_eq_true_eq, decide_eq_false_iff_not, Bool.not_eq_false'] at *); first | omega | (constructor <;> omega)) ?_); (iterate 2 refine Z2 (by assumption) ?_); exact Z7), ?_⟩
   have hF : Z1f a1 b1 b2 b3 b4 = (((Zc a1 b1 b2 b3 b4).1), (Zc a1 b1 b2 b3 b4).2.1, (Zc a1 b1 b2 b3 b4).2.2.1, (Zc a1 b1 b2 b3 b4).2.2.2.1, (Zc a1 b1 b2 b3 b4).2.2.2.2) := by first | exact (Z11 h0 rfl) | simp only [Z1f, h0, cond_true, cond_false]
   exact ⟨_, ((((Turn.moveC 0 0 6 10 rfl rfl rfl (by simp [hset, oM, oV])).trans (Turn.moveC 0 1 7 11 rfl rfl rfl (by simp [hset, oM, oV]))).trans (Turn.moveC 0 2 8 12 rfl rfl rfl (by simp [hset, oM, oV]))).trans (Turn.moveC 0 3 9 13 rfl rfl rfl (by simp [hset, oM, oV]))).trans (Turn.fits (p := ⟨Z9 167 [(4, .ptr 9 0)], (.cells 106 [.vec 5, .vec 6, .vec 7, .vec 8] :: .dead :: .dead :: .dead :: .dead :: oV ((Zc a1 b1 b2 b3 b4).2.1) ((Zc a1 b1 b2 b3 b4).2.2.1) ((Zc a1 b1 b2 b3 b4).2.2.2.1) ((Zc a1 b1 b2 b3 b4).2.2.2.2) [.cells 52 [.int .i64 (((Zc a1 b1 b2 b3 b4).1).err), .int .i64 (((Zc a1 b1 b2 b3 b4).1).size), .str (((Zc a1 b1 b2 b3 b4).1).zone), .int .u64 (((Zc a1 b1 b2 b3 b4).1).tag)]])⟩) [0, 1, 2, 3, 4, 10, 11, 12, 13, 5] (by kernel_rfl) (by kernel_rfl) (by kernel_rfl) (by kernel_rfl)), trivial, .inl (by (try rw [hF]); kernel_rfl), by (try rw [hF]); kernel_rfl⟩
 · refine ⟨fun h1 => ?_, fun h1 => ?_⟩
   · refine ⟨fun h2 => ?_, fun h2 => ?_⟩
     · have hF : Z1f a1 b1 b2 b3 b4 = ((default : XRes), b1, b2, b3, b4) := by first | exact (Z3 h0 (Z11 h1 (Z11 h2 rfl))) | simp only [Z1f, h0, h1, h2, cond_true, cond_false]
       exact ⟨_, ((((Turn.moveC 0 0 1 6 rfl rfl rfl (by simp [hset, oM, oV])).trans (Turn.moveC 0 1 2 7 rfl rfl rfl (by simp [hset, oM, oV]))).trans (Turn.moveC 0 2 3 8 rfl rfl rfl (by simp [hset, oM, oV]))).trans (Turn.moveC 0 3 4 9 rfl rfl rfl (by simp [hset, oM, oV]))).trans (Turn.fits (p := ⟨Z9 167 [(4, .ptr 9 0)], (.cells 106 [.vec 5, .vec 6, .vec 7, .vec 8] :: .dead :: .dead :: .dead :: .dead :: oV b1 b2 b3 b4 [.cells 52 [.int .i64 0, .int .i64 0, .str (⟨#[]⟩ : BA), .int .u64 0]])⟩) [0, 1, 2, 3, 4, 6, 7, 8, 9, 5] (by kernel_rfl) (by kernel_rfl) (by kernel_rfl) (by kernel_rfl)), trivial, .inl (by (try rw [hF]); kernel_rfl), by (try rw [hF]); kernel_rfl⟩
     · refine ⟨Z2 (by (try refine fun (_ : _ = _) => ?_); (try have hq := rngs a1 b1 b2 b3 b4); (try simp only [decide_eq_true_eq, decide_eq_false_iff_not, Bool.not_eq_false'] at *); first | omega | (constructor <;> omega)) (Z7), ?_⟩
       refine ⟨fun h3 => ?_, fun h3 => ?_⟩
       · have hF : Z1f a1 b1 b2 b3 b4 = ((Z8 (10 : Int)), b1, b2, b3, b4) := by first | exact (Z3 h0 (Z11 h1 (Z3 h2 (Z11 h3 rfl)))) | simp only [Z1f, h0, h1, h2, h3, cond_true, cond_false]
         exact ⟨_, ((((Turn.moveC 0 0 1 6 rfl rfl rfl (by simp [hset, oM, oV])).trans (Turn.moveC 0 1 2 7 rfl rfl rfl (by simp [hset, oM, oV]))).trans (Turn.moveC 0 2 3 8 rfl rfl rfl (by simp [hset, oM, oV]))).trans (Turn.moveC 0 3 4 9 rfl rfl rfl (by simp [hset, oM, oV]))).trans (Turn.fits (p := ⟨Z9 167 [(4, .ptr 9 0)], (.cells 106 [.vec 5, .vec 6, .vec 7, .vec 8] :: .dead :: .dead :: .dead :: .dead :: oV b1 b2 b3 b4 [.cells 52 [.int .i64 ((Z8 (10 : Int)).err), .int .i64 ((Z8 (10 : Int)).size), .str ((Z8 (10 : Int)).zone), .int .u64 ((Z8 (10 : Int)).tag)]])⟩) [0, 1, 2, 3, 4, 6, 7, 8, 9, 5] (by kernel_rfl) (by kernel_rfl) (by kernel_rfl) (by kernel_rfl)), trivial, .inl (by (try rw [hF]); kernel_rfl), by (try rw [hF]); kernel_rfl⟩
       · refine ⟨(by (iterate 5 refine Z2 (by (try refine fun (_ : _ = _) => ?_); (try have hq := rngs a1 b1 b2 b3 b4); (try simp only [decide_eq_true_eq, decide_eq_false_iff_not, Bool.not_eq_false'] at *); first | omega | (constructor <;> omega)) ?_); refine Z2 (by (try refine fun (_ : _ = _) => ?_); (try have hq := rngs a1 b1 b2 b3 b4); (try simp only [decide_eq_true_eq, decide_eq_false_iff_not, Bool.not_eq_false'] at *); refine ⟨Z1c5 (hp5 _ (Zf0 ?_ ?_)) _ _ _, (Zc8 _ _ _ _ _).2⟩ <;> omega) ?_; refine Z2 (by (try refine fun (_ : _ = _) => ?_); (try have hq := rngs a1 b1 b2 b3 b4); (try simp only [decide_eq_true_eq, decide_eq_false_iff_not, Bool.not_eq_false'] at *); first | omega | (constructor <;> omega)) ?_; refine Z2 (by (try refine fun (_ : _ = _) => ?_); (try have hq := rngs a1 b1 b2 b3 b4); (try simp only [decide_eq_true_eq, decide_eq_false_iff_not, Bool.not_eq_false'] at *); refine ⟨Z1c5 (hp5 _ (Zf0 ?_ ?_)) _ _ _, (Zc8 _ _ _ _ _).2⟩ <;> omega) ?_; exact Z7), ?_⟩
         refine ⟨(by refine Z2 (by (try refine fun (_ : _ = _) => ?_); (try have hq := rngs a1 b1 b2 b3 b4); (try simp only [decide_eq_true_eq, decide_eq_false_iff_not, Bool.not_eq_false'] at *); first | omega | (constructor <;> omega)) ?_; refine Z2 (by (try refine fun (_ : _ = _) => ?_); (try have hq := rngs a1 b1 b2 b3 b4); (try simp only [decide_eq_true_eq, decide_eq_false_iff_not, Bool.not_eq_false'] at *); unfold Z16 maxLen; (try simp only [List.length_append, List.length_cons, List.length_nil, List.length_drop, List.length_take]); omega) ?_; (iterate 2 refine Z2 (by (try refine fun (_ : _ = _) => ?_); (try have hq := rngs a1 b1 b2 b3 b4); (try simp only [decide_eq_true_eq, decide_eq_false_iff_not, Bool.not_eq_false'] at *); (try rw [wrap1 (x := Z5 a1.target b1 b2 b3 b4) (by omega) (by omega)]); (try rw [wrap1 (x := Z21 a1.target b1 b2 b3 b4) (by omega) (by omega)]); (try unfold Z16); (try unfold maxLen); (try simp only [List.length_append, List.length_cons, List.length_nil, List.length_drop, List.length_take]); omega) ?_); exact Z7), ?_⟩
         have hF : Z1f a1 b1 b2 b3 b4 = ((default : XRes), (b1.set ((Z14 ((b2.getD ((Z5 a1.target b1 b2 b3 b4).toNat) default).zone) b1 b2 b3 b4).toNat) (⟨(b1.getD ((Z14 ((b2.getD ((Z5 a1.target b1 b2 b3 b4).toNat) default).zone) b1 b2 b3 b4).toNat) default).name, (IntKind.i64.wrap (((b1.getD ((Z14 ((b2.getD ((Z5 a1.target b1 b2 b3 b4).toNat) default).zone) b1 b2 b3 b4).toNat) default).room) + ((b2.getD ((Z5 a1.target b1 b2 b3 b4).toNat) default).size)))⟩ : XZone)), (([] ++ ((b2.take ((Z5 a1.target b1 b2 b3 b4).toNat)).drop 0)) ++ ((b2.take ((b2.length : Int).toNat)).drop ((IntKind.i64.wrap ((Z5 a1.target b1 b2 b3 b4) + (1 : Int))).toNat))), b3, b4) := by first | exact (Z3 h0 (Z11 h1 (Z3 h2 (Z3 h3 rfl)))) | simp only [Z1f, h0, h1, h2, h3, cond_true, cond_false]
         exact ⟨_, ((((Turn.moveC 0 0 1 7 rfl rfl rfl (by simp [hset, oM, oV])).trans (Turn.moveC 0 1 6 8 rfl rfl rfl (by simp [hset, oM, oV]))).trans (Turn.moveC 0 2 3 9 rfl rfl rfl (by simp [hset, oM, oV]))).trans (Turn.moveC 0 3 4 10 rfl rfl rfl (by simp [hset, oM, oV]))).trans (Turn.fits (p := ⟨Z9 167 [(4, .ptr 9 0)], (.cells 106 [.vec 5, .vec 6, .vec 7, .vec 8] :: .dead :: .dead :: .dead :: .dead :: oV (b1.set ((Z14 ((b2.getD ((Z5 a1.target b1 b2 b3 b4).toNat) default).zone) b1 b2 b3 b4).toNat) (⟨(b1.getD ((Z14 ((b2.getD ((Z5 a1.target b1 b2 b3 b4).toNat) default).zone) b1 b2 b3 b4).toNat) default).name, (IntKind.i64.wrap (((b1.getD ((Z14 ((b2.getD ((Z5 a1.target b1 b2 b3 b4).toNat) default).zone) b1 b2 b3 b4).toNat) default).room) + ((b2.getD ((Z5 a1.target b1 b2 b3 b4).toNat) default).size)))⟩ : XZone)) (([] ++ ((b2.take ((Z5 a1.target b1 b2 b3 b4).toNat)).drop 0)) ++ ((b2.take ((b2.length : Int).toNat)).drop ((IntKind.i64.wrap ((Z5 a1.target b1 b2 b3 b4) + (1 : Int))).toNat))) b3 b4 [.cells 52 [.int .i64 0, .int .i64 0, .str (⟨#[]⟩ : BA), .int .u64 0]])⟩) [0, 1, 2, 3, 4, 7, 8, 9, 10, 5] (by kernel_rfl) (by kernel_rfl) (by kernel_rfl) (by kernel_rfl)), trivial, .inl (by (try rw [hF]); kernel_rfl), by (try rw [hF]); kernel_rfl⟩
   · refine ⟨fun h2 => ?_, fun h2 => ?_⟩
     · refine ⟨fun h3 => ?_, fun h3 => ?_⟩
       · have hF : Z1f a1 b1 b2 b3 b4 = ((Z8 (5 : Int)), b1, b2, b3, b4) := by first | exact (Z3 h0 (Z3 h1 (Z11 h2 (Z11 h3 rfl)))) | simp only [Z1f, h0, h1, h2, h3, cond_true, cond_false]
         exact ⟨_, ((((Turn.moveC 0 0 1 6 rfl rfl rfl (by simp [hset, oM, oV])).trans (Turn.moveC 0 1 2 7 rfl rfl rfl (by simp [hset, oM, oV]))).trans (Turn.moveC 0 2 3 8 rfl rfl rfl (by simp [hset, oM, oV]))).trans (Turn.moveC 0 3 4 9 rfl rfl rfl (by simp [hset, oM, oV]))).trans (Turn.fits (p := ⟨Z9 167 [(4, .ptr 9 0)], (.cells 106 [.vec 5, .vec 6, .vec 7, .vec 8] :: .dead :: .dead :: .dead :: .dead :: oV b1 b2 b3 b4 [.cells 52 [.int .i64 ((Z8 (5 : Int)).err), .int .i64 ((Z8 (5 : Int)).size), .str ((Z8 (5 : Int)).zone), .int .u64 ((Z8 (5 : Int)).tag)]])⟩) [0, 1, 2, 3, 4, 6, 7, 8, 9, 5] (by kernel_rfl) (by kernel_rfl) (by kernel_rfl) (by kernel_rfl)), trivial, .inl (by (try rw [hF]); kernel_rfl), by (try rw [hF]); kernel_rfl⟩
       · refine ⟨Z2 (by (try refine fun (_ : _ = _) => ?_); (try have hq := rngs a1 b1 b2 b3 b4); (try simp only [decide_eq_true_eq, decide_eq_false_iff_not, Bool.not_eq_false'] at *); first | omega | (constructor <;> omega)) (Z2 (by (try refine fun (_ : _ = _) => ?_); (try have hq := rngs a1 b1 b2 b3 b4); (try simp only [decide_eq_true_eq, decide_eq_false_iff_not, Bool.not_eq_false'] at *); refine hp4 _ (Zf0 ?_ ?_) <;> omega) (Z2 (by (try refine fun (_ : _ = _) => ?_); (try have hq := rngs a1 b1 b2 b3 b4); (try simp only [decide_eq_true_eq, decide_eq_false_iff_not, Bool.not_eq_false'] at *); first | omega | (constructor <;> omega)) (Z7))), ?_⟩
         have hF : Z1f a1 b1 b2 b3 b4 = ((default : XRes), b1, (b2.set ((Z5 a1.target b1 b2 b3 b4).toNat) (⟨(b2.getD ((Z5 a1.target b1 b2 b3 b4).toNat) default).name, ((b2.getD ((Z5 a1.target b1 b2 b3 b4).toNat) default).size), (b2.getD ((Z5 a1.target b1 b2 b3 b4).toNat) default).zone, ((b2.getD ((Z5 a1.target b1 b2 b3 b4).toNat) default).tag), Z9d ((b2.getD ((Z5 a1.target b1 b2 b3 b4).toNat) default).nodes) a1.node⟩ : XVol)), b3, b4) := by first | exact (Z3 h0 (Z3 h1 (Z11 h2 (Z3 h3 rfl)))) | simp only [Z1f, h0, h1, h2, h3, cond_true, cond_false]
         exact ⟨_, ((((Turn.moveC 0 0 1 6 rfl rfl rfl (by simp [hset, oM, oV])).trans (Turn.moveC 0 1 2 7 rfl rfl rfl (by simp [hset, oM, oV]))).trans (Turn.moveC 0 2 3 8 rfl rfl rfl (by simp [hset, oM, oV]))).trans (Turn.moveC 0 3 4 9 rfl rfl rfl (by simp [hset, oM, oV]))).trans (Turn.fits (p := ⟨Z9 167 [(4, .ptr 9 0)], (.cells 106 [.vec 5, .vec 6, .vec 7, .vec 8] :: .dead :: .dead :: .dead :: .dead :: oV b1 (b2.set ((Z5 a1.target b1 b2 b3 b4).toNat) (⟨(b2.getD ((Z5 a1.target b1 b2 b3 b4).toNat) default).name, ((b2.getD ((Z5 a1.target b1 b2 b3 b4).toNat) default).size), (b2.getD ((Z5 a1.target b1 b2 b3 b4).toNat) default).zone, ((b2.getD ((Z5 a1.target b1 b2 b3 b4).toNat) default).tag), Z9d ((b2.getD ((Z5 a1.target b1 b2 b3 b4).toNat) default).nodes) a1.node⟩ : XVol)) b3 b4 [.cells 52 [.int .i64 0, .int .i64 0, .str (⟨#[]⟩ : BA), .int .u64 0]])⟩) [0, 1, 2, 3, 4, 6, 7, 8, 9, 5] (by kernel_rfl) (by kernel_rfl) (by kernel_rfl) (by kernel_rfl)), trivial, .inl (by (try rw [hF]); kernel_rfl), by (try rw [hF]); kernel_rfl⟩
     · refine ⟨fun h3 => ?_, fun h3 => ?_⟩
       · refine ⟨fun h4 => ?_, fun h4 => ?_⟩
         · refine ⟨Z2 (by (try refine fun (_ : _ = _) => ?_); (try have hq := rngs a1 b1 b2 b3 b4); (try simp only [decide_eq_true_eq, decide_eq_false_iff_not, Bool.not_eq_false'] at *); first | omega | (constructor <;> omega)) (Z2 (by (try refine fun (_ : _ = _) => ?_); (try have hq := rngs a1 b1 b2 b3 b4); (try simp only [decide_eq_true_eq, decide_eq_false_iff_not, Bool.not_eq_false'] at *); refine hp4 _ (Zf0 ?_ ?_) <;> omega) (Z2 (by (try refine fun (_ : _ = _) => ?_); (try have hq := rngs a1 b1 b2 b3 b4); (try simp only [decide_eq_true_eq, decide_eq_false_iff_not, Bool.not_eq_false'] at *); first | omega | (constructor <;> omega)) (Z7))), ?_⟩
           have hF : Z1f a1 b1 b2 b3 b4 = ((default : XRes), b1, (b2.set ((Z5 a1.target b1 b2 b3 b4).toNat) (⟨(b2.getD ((Z5 a1.target b1 b2 b3 b4).toNat) default).name, ((b2.getD ((Z5 a1.target b1 b2 b3 b4).toNat) default).size), (b2.getD ((Z5 a1.target b1 b2 b3 b4).toNat) default).zone, ((b2.getD ((Z5 a1.target b1 b2 b3 b4).toNat) default).tag), Z97 ((b2.getD ((Z5 a1.target b1 b2 b3 b4).toNat) default).nodes) a1.node⟩ : XVol)), b3, b4) := by first | exact (Z3 h0 (Z3 h1 (Z3 h2 (Z11 h3 (Z11 h4 rfl))))) | simp only [Z1f, h0, h1, h2, h3, h4, cond_true, cond_false]
           exact ⟨_, ((((Turn.moveC 0 0 1 6 rfl rfl rfl (by simp [hset, oM, oV])).trans (Turn.moveC 0 1 2 7 rfl rfl rfl (by simp [hset, oM, oV]))).trans (Turn.moveC 0 2 3 8 rfl rfl rfl (by simp [hset, oM, oV]))).trans (Turn.moveC 0 3 4 9 rfl rfl rfl (by simp [hset, oM, oV]))).trans (Turn.fits (p := ⟨Z9 167 [(4, .ptr 9 0)], (.cells 106 [.vec 5, .vec 6, .vec 7, .vec 8] :: .dead :: .dead :: .dead :: .dead :: oV b1 (b2.set ((Z5 a1.target b1 b2 b3 b4).toNat) (⟨(b2.getD ((Z5 a1.target b1 b2 b3 b4).toNat) default).name, ((b2.getD ((Z5 a1.target b1 b2 b3 b4).toNat) default).size), (b2.getD ((Z5 a1.target b1 b2 b3 b4).toNat) default).zone, ((b2.getD ((Z5 a1.target b1 b2 b3 b4).toNat) default).tag), Z97 ((b2.getD ((Z5 a1.target b1 b2 b3 b4).toNat) default).nodes) a1.node⟩ : XVol)) b3 b4 [.cells 52 [.int .i64 0, .int .i64 0, .str (⟨#[]⟩ : BA), .int .u64 0]])⟩) [0, 1, 2, 3, 4, 6, 7, 8, 9, 5] (by kernel_rfl) (by kernel_rfl) (by kernel_rfl) (by kernel_rfl)), trivial, .inl (by (try rw [hF]); kernel_rfl), by (try rw [hF]); kernel_rfl⟩
         · have hF : Z1f a1 b1 b2 b3 b4 = ((default : XRes), b1, b2, b3, b4) := by first | exact (Z3 h0 (Z3 h1 (Z3 h2 (Z11 h3 (Z3 h4 rfl))))) | simp only [Z1f, h0, h1, h2, h3, h4, cond_true, cond_false]
           exact ⟨_, ((((Turn.moveC 0 0 1 6 rfl rfl rfl (by simp [hset, oM, oV])).trans (Turn.moveC 0 1 2 7 rfl rfl rfl (by simp [hset, oM, oV]))).trans (Turn.moveC 0 2 3 8 rfl rfl rfl (by simp [hset, oM, oV]))).trans (Turn.moveC 0 3 4 9 rfl rfl rfl (by simp [hset, oM, oV]))).trans (Turn.fits (p := ⟨Z9 167 [(4, .ptr 9 0)], (.cells 106 [.vec 5, .vec 6, .vec 7, .vec 8] :: .dead :: .dead :: .dead :: .dead :: oV b1 b2 b3 b4 [.cells 52 [.int .i64 0, .int .i64 0, .str (⟨#[]⟩ : BA), .int .u64 0]])⟩) [0, 1, 2, 3, 4, 6, 7, 8, 9, 5] (by kernel_rfl) (by kernel_rfl) (by kernel_rfl) (by kernel_rfl)), trivial, .inl (by (try rw [hF]); kernel_rfl), by (try rw [hF]); kernel_rfl⟩
       · refine ⟨fun h4 => ?_, fun h4 => ?_⟩
         · refine ⟨(by (iterate 4 refine Z2 (by (try refine fun (_ : _ = _) => ?_); (try have hq := rngs a1 b1 b2 b3 b4); (try simp only [decide_eq_true_eq, decide_eq_false_iff_not, Bool.not_eq_false'] at *); first | omega | (constructor <;> omega)) ?_); (iterate 2 refine Z2 (by assumption) ?_); refine Z2 (by (try refine fun (_ : _ = _) => ?_); (try have hq := rngs a1 b1 b2 b3 b4); (try simp only [decide_eq_true_eq, decide_eq_false_iff_not, Bool.not_eq_false'] at *); first | omega | (constructor <;> omega)) ?_; exact Z7), ?_⟩
           have hF : Z1f a1 b1 b2 b3 b4 = (((Z1c (Z5 a1.target b1 b2 b3 b4) a1 b1 b2 b3 b4).1), (Z1c (Z5 a1.target b1 b2 b3 b4) a1 b1 b2 b3 b4).2.1, (Z1c (Z5 a1.target b1 b2 b3 b4) a1 b1 b2 b3 b4).2.2, b3, b4) := by first | exact (Z3 h0 (Z3 h1 (Z3 h2 (Z3 h3 (Z11 h4 rfl))))) | simp only [Z1f, h0, h1, h2, h3, h4, cond_true, cond_false]
           exact ⟨_, ((((Turn.moveC 0 0 1 6 rfl rfl rfl (by simp [hset, oM, oV])).trans (Turn.moveC 0 1 2 7 rfl rfl rfl (by simp [hset, oM, oV]))).trans (Turn.moveC 0 2 3 8 rfl rfl rfl (by simp [hset, oM, oV]))).trans (Turn.moveC 0 3 4 9 rfl rfl rfl (by simp [hset, oM, oV]))).trans (Turn.fits (p := ⟨Z9 167 [(4, .ptr 9 0)], (.cells 106 [.vec 5, .vec 6, .vec 7, .vec 8] :: .dead :: .dead :: .dead :: .dead :: oV ((Z1c (Z5 a1.target b1 b2 b3 b4) a1 b1 b2 b3 b4).2.1) ((Z1c (Z5 a1.target b1 b2 b3 b4) a1 b1 b2 b3 b4).2.2) b3 b4 [.cells 52 [.int .i64 (((Z1c (Z5 a1.target b1 b2 b3 b4) a1 b1 b2 b3 b4).1).err), .int .i64 (((Z1c (Z5 a1.target b1 b2 b3 b4) a1 b1 b2 b3 b4).1).size), .str (((Z1c (Z5 a1.target b1 b2 b3 b4) a1 b1 b2 b3 b4).1).zone), .int .u64 (((Z1c (Z5 a1.target b1 b2 b3 b4) a1 b1 b2 b3 b4).1).tag)]])⟩) [0, 1, 2, 3, 4, 6, 7, 8, 9, 5] (by kernel_rfl) (by kernel_rfl) (by kernel_rfl) (by kernel_rfl)), trivial, .inl (by (try rw [hF]); kernel_rfl), by (try rw [hF]); kernel_rfl⟩
         · refine ⟨fun h5 => ?_, fun h5 => ?_⟩
           · refine ⟨(by (iterate 4 refine Z2 (by (try refine fun (_ : _ = _) => ?_); (try have hq := rngs a1 b1 b2 b3 b4); (try simp only [decide_eq_true_eq, decide_eq_false_iff_not, Bool.not_eq_false'] at *); first | omega | (constructor <;> omega)) ?_); (iterate 2 refine Z2 (by assumption) ?_); exact Z7), ?_⟩
             have hF : Z1f a1 b1 b2 b3 b4 = (((Z31 a1 b1 b2 b3 b4).1), (Z31 a1 b1 b2 b3 b4).2.1, (Z31 a1 b1 b2 b3 b4).2.2.1, (Z31 a1 b1 b2 b3 b4).2.2.2.1, (Z31 a1 b1 b2 b3 b4).2.2.2.2) := by first | exact (Z3 h0 (Z3 h1 (Z3 h2 (Z3 h3 (Z3 h4 (Z11 h5 rfl)))))) | simp only [Z1f, h0, h1, h2, h3, h4, h5, cond_true, cond_false]
             exact ⟨_, ((((Turn.moveC 0 0 6 10 rfl rfl rfl (by simp [hset, oM, oV])).trans (Turn.moveC 0 1 7 11 rfl rfl rfl (by simp [hset, oM, oV]))).trans (Turn.moveC 0 2 8 12 rfl rfl rfl (by simp [hset, oM, oV]))).trans (Turn.moveC 0 3 9 13 rfl rfl rfl (by simp [hset, oM, oV]))).trans (Turn.fits (p := ⟨Z9 167 [(4, .ptr 9 0)], (.cells 106 [.vec 5, .vec 6, .vec 7, .vec 8] :: .dead :: .dead :: .dead :: .dead :: oV ((Z31 a1 b1 b2 b3 b4).2.1) ((Z31 a1 b1 b2 b3 b4).2.2.1) ((Z31 a1 b1 b2 b3 b4).2.2.2.1) ((Z31 a1 b1 b2 b3 b4).2.2.2.2) [.cells 52 [.int .i64 (((Z31 a1 b1 b2 b3 b4).1).err), .int .i64 (((Z31 a1 b1 b2 b3 b4).1).size), .str (((Z31 a1 b1 b2 b3 b4).1).zone), .int .u64 (((Z31 a1 b1 b2 b3 b4).1).tag)]])⟩) [0, 1, 2, 3, 4, 10, 11, 12, 13, 5] (by kernel_rfl) (by kernel_rfl) (by kernel_rfl) (by kernel_rfl)), trivial, .inl (by (try rw [hF]); kernel_rfl), by (try rw [hF]); kernel_rfl⟩
           · refine ⟨(by (iterate 4 refine Z2 (by (try refine fun (_ : _ = _) => ?_); (try have hq := rngs a1 b1 b2 b3 b4); (try simp only [decide_eq_true_eq, decide_eq_false_iff_not, Bool.not_eq_false'] at *); first | omega | (constructor <;> omega)) ?_); exact Z7), ?_⟩
             refine ⟨fun h6 => ?_, fun h6 => ?_⟩
             · refine ⟨(by refine Z2 (by (try refine fun (_ : _ = _) => ?_); (try have hq := rngs a1 b1 b2 b3 b4); (try simp only [decide_eq_true_eq, decide_eq_false_iff_not, Bool.not_eq_false'] at *); first | omega | (constructor <;> omega)) ?_; refine Z2 (by (try refine fun (_ : _ = _) => ?_); (try have hq := rngs a1 b1 b2 b3 b4); (try simp only [decide_eq_true_eq, decide_eq_false_iff_not, Bool.not_eq_false'] at *); unfold Z16 maxLen; (try simp only [List.length_append, List.length_cons, List.length_nil, List.length_drop, List.length_take]); omega) ?_; (iterate 2 refine Z2 (by (try refine fun (_ : _ = _) => ?_); (try have hq := rngs a1 b1 b2 b3 b4); (try simp only [decide_eq_true_eq, decide_eq_false_iff_not, Bool.not_eq_false'] at *); (try rw [wrap1 (x := Z5 a1.target b1 b2 b3 b4) (by omega) (by omega)]); (try rw [wrap1 (x := Z21 a1.target b1 b2 b3 b4) (by omega) (by omega)]); (try unfold Z16); (try unfold maxLen); (try simp only [List.length_append, List.length_cons, List.length_nil, List.length_drop, List.length_take]); omega) ?_); exact Z7), ?_⟩
               have hF : Z1f a1 b1 b2 b3 b4 = ((default : XRes), b1, b2, (([] ++ ((b3.take ((Z21 a1.target b1 b2 b3 b4).toNat)).drop 0)) ++ ((b3.take ((b3.length : Int).toNat)).drop ((IntKind.i64.wrap ((Z21 a1.target b1 b2 b3 b4) + (1 : Int))).toNat))), b4) := by first | exact (Z3 h0 (Z3 h1 (Z3 h2 (Z3 h3 (Z3 h4 (Z3 h5 (Z11 h6 rfl))))))) | simp only [Z1f, h0, h1, h2, h3, h4, h5, h6, cond_true, cond_false]
               exact ⟨_, ((((Turn.moveC 0 0 1 7 rfl rfl rfl (by simp [hset, oM, oV])).trans (Turn.moveC 0 1 2 8 rfl rfl rfl (by simp [hset, oM, oV]))).trans (Turn.moveC 0 2 6 9 rfl rfl rfl (by simp [hset, oM, oV]))).trans (Turn.moveC 0 3 4 10 rfl rfl rfl (by simp [hset, oM, oV]))).trans (Turn.fits (p := ⟨Z9 167 [(4, .ptr 9 0)], (.cells 106 [.vec 5, .vec 6, .vec 7, .vec 8] :: .dead :: .dead :: .dead :: .dead :: oV b1 b2 (([] ++ ((b3.take ((Z21 a1.target b1 b2 b3 b4).toNat)).drop 0)) ++ ((b3.take ((b3.length : Int).toNat)).drop ((IntKind.i64.wrap ((Z21 a1.target b1 b2 b3 b4) + (1 : Int))).toNat))) b4 [.cells 52 [.int .i64 0, .int .i64 0, .str (⟨#[]⟩ : BA), .int .u64 0]])⟩) [0, 1, 2, 3, 4, 7, 8, 9, 10, 5] (by kernel_rfl) (by kernel_rfl) (by kernel_rfl) (by kernel_rfl)), trivial, .inl (by (try rw [hF]); kernel_rfl), by (try rw [hF]); kernel_rfl⟩
             · have hF : Z1f a1 b1 b2 b3 b4 = ((default : XRes), b1, b2, b3, b4) := by first | exact (Z3 h0 (Z3 h1 (Z3 h2 (Z3 h3 (Z3 h4 (Z3 h5 (Z3 h6 rfl))))))) | simp only [Z1f, h0, h1, h2, h3, h4, h5, h6, cond_true, cond_false]
               exact ⟨_, ((((Turn.moveC 0 0 1 6 rfl rfl rfl (by simp [hset, oM, oV])).trans (Turn.moveC 0 1 2 7 rfl rfl rfl (by simp [hset, oM, oV]))).trans (Turn.moveC 0 2 3 8 rfl rfl rfl (by simp [hset, oM, oV]))).trans (Turn.moveC 0 3 4 9 rfl rfl rfl (by simp [hset, oM, oV]))).trans (Turn.fits (p := ⟨Z9 167 [(4, .ptr 9 0)], (.cells 106 [.vec 5, .vec 6, .vec 7, .vec 8] :: .dead :: .dead :: .dead :: .dead :: oV b1 b2 b3 b4 [.cells 52 [.int .i64 0, .int .i64 0, .str (⟨#[]⟩ : BA), .int .u64 0]])⟩) [0, 1, 2, 3, 4, 6, 7, 8, 9, 5] (by kernel_rfl) (by kernel_rfl) (by kernel_rfl) (by kernel_rfl)), trivial, .inl (by (try rw [hF]); kernel_rfl), by (try rw [hF]); kernel_rfl⟩
noncomputable def rD_do_fact : Fact Try.prog := Z4f 97 Try.f97 (by kernel_rfl) rfl (by kernel_rfl) [.c (.ptr 0 0), .st .call] [.cells 106 [.vec 1, .vec 2, .vec 3, .vec 4], .vec false .zone, .vec false .vol, .vec false .snap, .vec false .done] false (fun t u => .agg [.int .i64 (((Z1f t.2.1 u.2.1 u.2.2.1 u.2.2.2.1 u.2.2.2.2.1).1).err), .int .i64 (((Z1f t.2.1 u.2.1 u.2.2.1 u.2.2.2.1 u.2.2.2.2.1).1).size), .str (((Z1f t.2.1 u.2.1 u.2.2.1 u.2.2.2.1 u.2.2.2.2.1).1).zone), .int .u64 (((Z1f t.2.1 u.2.1 u.2.2.1 u.2.2.2.1 u.2.2.2.2.1).1).tag)]) (fun t u => (.cells 106 [.vec 5, .vec 6, .vec 7, .vec 8] :: .dead :: .dead :: .dead :: .dead :: oV ((Z1f t.2.1 u.2.1 u.2.2.1 u.2.2.2.1 u.2.2.2.2.1).2.1) ((Z1f t.2.1 u.2.1 u.2.2.1 u.2.2.2.1 u.2.2.2.2.1).2.2.1) ((Z1f t.2.1 u.2.1 u.2.2.1 u.2.2.2.1 u.2.2.2.2.1).2.2.2.1) ((Z1f t.2.1 u.2.1 u.2.2.1 u.2.2.2.1 u.2.2.2.2.1).2.2.2.2) [])) (fun t u => [u.2.1.length ≤ 1000, u.2.2.1.length ≤ 1000, u.2.2.2.1.length ≤ 1000, u.2.2.2.2.1.length ≤ 1000, ∀ v ∈ u.2.2.1, v.nodes.length ≤ 1000, ∀ v ∈ u.2.2.1, ZHas u.2.1 v.zone])
 (nofun) (fun t u => by kernel_rfl) (fun t u => by kernel_rfl) (fun t u h => rD_doF_tr t.2.1 u.2.1 u.2.2.1 u.2.2.2.1 u.2.2.2.2.1 (h _ mS) (h _ (mN mS)) (h _ (mN (mN mS))) (h _ (mN (mN (mN mS)))) (h _ (mN (mN (mN (mN mS))))) (h _ (mN (mN (mN (mN (mN mS)))))))
end Go.Proofs.Ytpffbkbadnhmmaa
