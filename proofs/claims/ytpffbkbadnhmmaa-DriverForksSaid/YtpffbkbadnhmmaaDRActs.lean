/- The document's driver: what a call does. -/
import Derived.Test.YtpffbkbadnhmmaaDRCre
set_option linter.unusedVariables false
set_option linter.unusedSimpArgs false
set_option maxRecDepth 100000
namespace Go.Proofs.Ytpffbkbadnhmmaa
open Go Go.Eng
noncomputable def E_r10_with : Env := envOf (P := Try.prog) [] [] [] ckf
def Z20 (a1 : ByteArray) : List ByteArray → Bool → List ByteArray → Bool × List ByteArray
 | [], v2, v4 => (v2, v4)
 | o :: r, v2, v4 => cond (cond (!v2) (strLess a1 o || decide (a1 = o)) false)
  (cond (!(decide (o = a1)))
    (Z20 a1 r true ((v4 ++ [a1]) ++ [o]))
    (Z20 a1 r true (v4 ++ [a1])))
  (cond (!(decide (o = a1)))
    (Z20 a1 r v2 (v4 ++ [o]))
    (Z20 a1 r v2 v4))
def Z5a (a0 : List ByteArray) (a1 : ByteArray) (v2 : Bool) (i : Nat) (v4 : List ByteArray) : St :=
 ⟨slots 48 [(0, .coll ⟨.str, a0⟩), (1, .str a1), (5, .vec 0), (6, .bool v2), (7, .int .i64 (i : Int))], [.vec true ⟨.str, v4⟩]⟩
def r10_withLR (a0 : List ByteArray) (a1 : ByteArray) (v2 : Bool) (i : Nat) (v4 : List ByteArray) : RT :=
 (.ask (decide ((i : Int) < (a0.length : Int)))
   (.need [((!v2) = true) → (0 ≤ (i : Int) ∧ (i : Int) < (a0.length : Int))]
     (.ask (cond (!v2) (strLess a1 (a0.getD i default) || decide (a1 = (a0.getD i default))) false)
       (.need [(v4.length + [a1].length) * 16 ≤ bytesLim ∧ v4.length + [a1].length ≤ maxLen]
         (.need [0 ≤ (i : Int) ∧ (i : Int) < (a0.length : Int)]
           (.ask (!(decide ((a0.getD i default) = a1)))
             (.need [0 ≤ (i : Int) ∧ (i : Int) < (a0.length : Int)]
               (.need [((v4 ++ [a1]).length + [(a0.getD i default)].length) * 16 ≤ bytesLim ∧ (v4 ++ [a1]).length + [(a0.getD i default)].length ≤ maxLen]
                 (.leaf .normal ⟨slots 48 [(0, .coll ⟨.str, a0⟩), (1, .str a1), (5, .vec 0), (6, .bool true), (7, .int .i64 (IntKind.i64.wrap ((i : Int) + (1 : Int))))], [.vec true ⟨.str, ((v4 ++ [a1]) ++ [(a0.getD i default)])⟩]⟩ [4])))
             (.leaf .normal ⟨slots 48 [(0, .coll ⟨.str, a0⟩), (1, .str a1), (5, .vec 0), (6, .bool true), (7, .int .i64 (IntKind.i64.wrap ((i : Int) + (1 : Int))))], [.vec true ⟨.str, (v4 ++ [a1])⟩]⟩ [2]))))
       (.need [0 ≤ (i : Int) ∧ (i : Int) < (a0.length : Int)]
         (.ask (!(decide ((a0.getD i default) = a1)))
           (.need [0 ≤ (i : Int) ∧ (i : Int) < (a0.length : Int)]
             (.need [(v4.length + [(a0.getD i default)].length) * 16 ≤ bytesLim ∧ v4.length + [(a0.getD i default)].length ≤ maxLen]
               (.leaf .normal ⟨slots 48 [(0, .coll ⟨.str, a0⟩), (1, .str a1), (5, .vec 0), (6, .bool v2), (7, .int .i64 (IntKind.i64.wrap ((i : Int) + (1 : Int))))], [.vec true ⟨.str, (v4 ++ [(a0.getD i default)])⟩]⟩ [2])))
           (.leaf .normal ⟨slots 48 [(0, .coll ⟨.str, a0⟩), (1, .str a1), (5, .vec 0), (6, .bool v2), (7, .int .i64 (IntKind.i64.wrap ((i : Int) + (1 : Int))))], [.vec true ⟨.str, v4⟩]⟩ [])))))
   (.leaf (.exit 0) ⟨slots 48 [(1, .str a1), (5, .vec 0), (6, .bool v2)], [.vec true ⟨.str, v4⟩]⟩ []))
def Z4e (a0 : List ByteArray) (a1 : ByteArray) (v2 : Bool) (i : Nat) (v4 : List ByteArray) : Tree :=
 .leaf (.exit 0) ⟨slots 48 [(1, .str a1), (5, .vec 0), (6, .bool ((Z20 a1 (a0.drop i) v2 v4).1))], [.vec true ⟨.str, (Z20 a1 (a0.drop i) v2 v4).2⟩]⟩
theorem r10_withL_loop (a0 : List ByteArray) (a1 : ByteArray) (hp0 : a0.length ≤ 1000) (hlen : a0.length < 4611686018427387904) (z : { z : Bool × Nat × List ByteArray // z.2.1 ≤ a0.length ∧ z.2.2.length ≤ 2 * z.2.1 }) (Q : Exit → St → Prop) (h : (Z4e a0 a1 z.1.1 z.1.2.1 z.1.2.2).All Q) : Tr Try.prog 0 (.loop (loopAt Try.f110 0)) (Z5a a0 a1 z.1.1 z.1.2.1 z.1.2.2) Q := by
 refine Tr_loopT (kok _ _ _ _ _ _) (E := E_r10_with) (ι := { z : Bool × Nat × List ByteArray // z.2.1 ≤ a0.length ∧ z.2.2.length ≤ 2 * z.2.1 }) 60 0 (fun _ => noLoops) (fun z => Z5a a0 a1 z.1.1 z.1.2.1 z.1.2.2) (fun z => Z4e a0 a1 z.1.1 z.1.2.1 z.1.2.2) (fun z => r10_withLR a0 a1 z.1.1 z.1.2.1 z.1.2.2) (fun z => a0.length - z.1.2.1) (fun _ => Z10.none) (fun z => by obtain ⟨⟨v2, i, v4⟩, hi⟩ := z; kernel_rfl) (fun z => by obtain ⟨⟨v2, i, v4⟩, hi⟩ := z; kernel_rfl) (fun z => by obtain ⟨⟨v2, i, v4⟩, hi⟩ := z; kernel_rfl) ?_ z Q h
 rintro ⟨⟨v2, i, v4⟩, hi⟩ Q hT
 replace hT : (Z4e a0 a1 v2 i v4).All Q := hT
 replace hi : i ≤ a0.length ∧ v4.length ≤ 2 * i := hi
 show (r10_withLR a0 a1 v2 i v4).All _
 unfold r10_withLR
 refine ⟨fun h0 => ?_, fun h0 => ?_⟩
 · have hlt : i < a0.length := by simpa using h0
   have hd := drop_getD hlt
   have hw := wrap_succ (i := i) (by omega)
   refine ⟨Z1 (by (try refine fun (_ : _ = _) => ?_); (try refine fun (_ : _ ∧ _) => ?_); first | omega | (constructor <;> omega)) (Z7), ?_⟩
   refine ⟨fun h1 => ?_, fun h1 => ?_⟩
   · refine ⟨Z1 (by (try refine fun (_ : _ = _) => ?_); (try refine fun (_ : _ ∧ _) => ?_); unfold bytesLim maxLen; (try simp only [List.length_append, List.length_cons, List.length_nil, List.length_drop, List.length_take]); omega) (Z7), ?_⟩
     refine ⟨Z1 (by (try refine fun (_ : _ = _) => ?_); (try refine fun (_ : _ ∧ _) => ?_); first | omega | (constructor <;> omega)) (Z7), ?_⟩
     refine ⟨fun h2 => ?_, fun h2 => ?_⟩
     · refine ⟨Z1 (by (try refine fun (_ : _ = _) => ?_); (try refine fun (_ : _ ∧ _) => ?_); first | omega | (constructor <;> omega)) (Z7), ?_⟩
       refine ⟨Z1 (by (try refine fun (_ : _ = _) => ?_); (try refine fun (_ : _ ∧ _) => ?_); unfold bytesLim maxLen; (try simp only [List.length_append, List.length_cons, List.length_nil, List.length_drop, List.length_take]); omega) (Z7), ?_⟩
       have hF : Z20 a1 (a0.drop i) v2 v4 = Z20 a1 (a0.drop (i + 1)) true ((v4 ++ [a1]) ++ [(a0.getD i default)]) := by rw [hd]; first | exact (Zd h1 (Zd h2 rfl)) | simp only [Z20, h0, h1, h2, cond_true, cond_false]
       refine ⟨⟨(true, (i + 1), ((v4 ++ [a1]) ++ [(a0.getD i default)])), by (first | dsimp only | skip); constructor <;> (try simp only [List.length_append, List.length_cons, List.length_nil]) <;> omega⟩, by show a0.length - (i + 1) < a0.length - i; omega, ?_, ?_⟩
       · show _ = Z5a a0 a1 true (i + 1) ((v4 ++ [a1]) ++ [(a0.getD i default)])
         unfold Z5a
         simp only [hw]
       · show (Z4e a0 a1 true (i + 1) ((v4 ++ [a1]) ++ [(a0.getD i default)])).All Q
         unfold Z4e at hT ⊢
         rw [hF] at hT
         exact hT
     · have hF : Z20 a1 (a0.drop i) v2 v4 = Z20 a1 (a0.drop (i + 1)) true (v4 ++ [a1]) := by rw [hd]; first | exact (Zd h1 (Z4 h2 rfl)) | simp only [Z20, h0, h1, h2, cond_true, cond_false]
       refine ⟨⟨(true, (i + 1), (v4 ++ [a1])), by (first | dsimp only | skip); constructor <;> (try simp only [List.length_append, List.length_cons, List.length_nil]) <;> omega⟩, by show a0.length - (i + 1) < a0.length - i; omega, ?_, ?_⟩
       · show _ = Z5a a0 a1 true (i + 1) (v4 ++ [a1])
         unfold Z5a
         simp only [hw]
       · show (Z4e a0 a1 true (i + 1) (v4 ++ [a1])).All Q
         unfold Z4e at hT ⊢
         rw [hF] at hT
         exact hT
   · refine ⟨Z1 (by (try refine fun (_ : _ = _) => ?_); (try refine fun (_ : _ ∧ _) => ?_); first | omega | (constructor <;> omega)) (Z7), ?_⟩
     refine ⟨fun h2 => ?_, fun h2 => ?_⟩
     · refine ⟨Z1 (by (try refine fun (_ : _ = _) => ?_); (try refine fun (_ : _ ∧ _) => ?_); first | omega | (constructor <;> omega)) (Z7), ?_⟩
       refine ⟨Z1 (by (try refine fun (_ : _ = _) => ?_); (try refine fun (_ : _ ∧ _) => ?_); unfold bytesLim maxLen; (try simp only [List.length_append, List.length_cons, List.length_nil, List.length_drop, List.length_take]); omega) (Z7), ?_⟩
       have hF : Z20 a1 (a0.drop i) v2 v4 = Z20 a1 (a0.drop (i + 1)) v2 (v4 ++ [(a0.getD i default)]) := by rw [hd]; first | exact (Z4 h1 (Zd h2 rfl)) | simp only [Z20, h0, h1, h2, cond_true, cond_false]
       refine ⟨⟨(v2, (i + 1), (v4 ++ [(a0.getD i default)])), by (first | dsimp only | skip); constructor <;> (try simp only [List.length_append, List.length_cons, List.length_nil]) <;> omega⟩, by show a0.length - (i + 1) < a0.length - i; omega, ?_, ?_⟩
       · show _ = Z5a a0 a1 v2 (i + 1) (v4 ++ [(a0.getD i default)])
         unfold Z5a
         simp only [hw]
       · show (Z4e a0 a1 v2 (i + 1) (v4 ++ [(a0.getD i default)])).All Q
         unfold Z4e at hT ⊢
         rw [hF] at hT
         exact hT
     · have hF : Z20 a1 (a0.drop i) v2 v4 = Z20 a1 (a0.drop (i + 1)) v2 v4 := by rw [hd]; first | exact (Z4 h1 (Z4 h2 rfl)) | simp only [Z20, h0, h1, h2, cond_true, cond_false]
       refine ⟨⟨(v2, (i + 1), v4), by (first | dsimp only | skip); constructor <;> (try simp only [List.length_append, List.length_cons, List.length_nil]) <;> omega⟩, by show a0.length - (i + 1) < a0.length - i; omega, ?_, ?_⟩
       · show _ = Z5a a0 a1 v2 (i + 1) v4
         unfold Z5a
         simp only [hw]
       · show (Z4e a0 a1 v2 (i + 1) v4).All Q
         unfold Z4e at hT ⊢
         rw [hF] at hT
         exact hT
 · have hge : ¬ i < a0.length := by simpa using h0
   have hd : a0.drop i = [] := List.drop_eq_nil_of_le (by omega)
   have hF : Z20 a1 (a0.drop i) v2 v4 = (v2, v4) := by rw [hd]; first | exact rfl | simp only [Z20, h0, cond_true, cond_false]
   unfold Z4e at hT
   rw [hF] at hT
   exact hT
theorem r10_withL_len (a1 : ByteArray) : ∀ (l : List ByteArray) (p : Bool) (v : List ByteArray), (Z20 a1 l p v).2.length ≤ v.length + 2 * l.length
 | [], p, v => by simp [Z20]
 | o :: r, p, v => by
  unfold Z20
  rw [List.length_cons]
  simp only [Bool.cond_eq_ite]
  repeat' split
  all_goals
   refine Nat.le_trans (r10_withL_len a1 r _ _) ?_
   (try simp only [List.length_append, List.length_cons, List.length_nil])
   omega
def Z62 (a0 : List ByteArray) (a1 : ByteArray) : List ByteArray :=
 cond (!((Z20 a1 a0 false []).1))
  (((Z20 a1 a0 false []).2) ++ [a1])
  ((Z20 a1 a0 false []).2)
def r10_withR (a0 : List ByteArray) (a1 : ByteArray) : RT :=
 (.ask (!((Z20 a1 a0 false []).1))
   (.need [(((Z20 a1 a0 false []).2).length + [a1].length) * 16 ≤ bytesLim ∧ ((Z20 a1 a0 false []).2).length + [a1].length ≤ maxLen]
     (.leaf .ret ⟨slots 48 [(4, .vec 0)], [.vec true ⟨.str, (((Z20 a1 a0 false []).2) ++ [a1])⟩]⟩ [2]))
   (.leaf .ret ⟨slots 48 [(4, .vec 0)], [.vec true ⟨.str, (Z20 a1 a0 false []).2⟩]⟩ []))
theorem r10_withF_tr (a0 : List ByteArray) (a1 : ByteArray) (hp0 : a0.length ≤ 1000) : Tr Try.prog 0 (bodyOf Try.f110) (fnBegins Try.f110 [.coll ⟨.str, a0⟩, .str a1] []) (fnEnds Try.prog Try.f110 (.vec 0) [.vec true ⟨.str, Z62 a0 a1⟩]) := by
 refine Tr_tree (kok _ _ _ _ _ _) (E := E_r10_with) (L := (loopsOf [(0, Z5a a0 a1 false 0 [], [1], Z4e a0 a1 false 0 [])])) 60 9999 (Z10.one (g := loopAt Try.f110 0) (b := 0) (by kernel_rfl) (by kernel_rfl) (by kernel_rfl) (by kernel_rfl) (fun Q h => r10_withL_loop a0 a1 hp0 (by omega) ⟨(false, 0, []), ⟨Nat.zero_le _, Nat.zero_le _⟩⟩ Q h)) (r10_withR a0 a1) (by kernel_rfl) (by kernel_rfl) (by kernel_rfl) ?_
 unfold r10_withR
 refine ⟨fun h0 => ?_, fun h0 => ?_⟩
 · refine ⟨Z1 (by (try refine fun (_ : _ = _) => ?_); (try refine fun (_ : _ ∧ _) => ?_); (try have h80 := r10_withL_len a1 a0 false []); (try simp only [List.length_nil] at *); unfold bytesLim maxLen; (try simp only [List.length_append, List.length_cons, List.length_nil, List.length_drop, List.length_take]); omega) (Z7), ?_⟩
   have hF : Z62 a0 a1 = (((Z20 a1 a0 false []).2) ++ [a1]) := by first | exact (Zd h0 rfl) | simp only [Z62, h0, cond_true, cond_false]
   exact ⟨trivial, .inl (by (try rw [hF]); kernel_rfl), by (try rw [hF]); kernel_rfl⟩
 · have hF : Z62 a0 a1 = ((Z20 a1 a0 false []).2) := by first | exact (Z4 h0 rfl) | simp only [Z62, h0, cond_true, cond_false]
   exact ⟨trivial, .inl (by (try rw [hF]); kernel_rfl), by (try rw [hF]); kernel_rfl⟩
noncomputable def r10_with_fact : Fact Try.prog := factOf 110 Try.f110 (by kernel_rfl) rfl (by kernel_rfl) [.c (.coll .str), .c (.str)] [] false (fun t u => .vec 0) (fun t u => [.vec true ⟨.str, Z62 t.1 t.2.1⟩]) (fun t u => [t.1.length ≤ 1000])
 (nofun) (fun t u => by kernel_rfl) (fun t u => by kernel_rfl) (fun t u h => r10_withF_tr t.1 t.2.1 (h _ List.mem_cons_self))
noncomputable def E_r10_without : Env := envOf (P := Try.prog) [] [] [] ckf
def Z31 (a1 : ByteArray) : List ByteArray → List ByteArray → List ByteArray
 | [], v3 => v3
 | o :: r, v3 => cond (!(decide (o = a1)))
  (Z31 a1 r (v3 ++ [o]))
  (Z31 a1 r v3)
def Z60 (a0 : List ByteArray) (a1 : ByteArray) (i : Nat) (v3 : List ByteArray) : St :=
 ⟨slots 27 [(0, .coll ⟨.str, a0⟩), (1, .str a1), (5, .vec 0), (6, .int .i64 (i : Int))], [.vec true ⟨.str, v3⟩]⟩
def r10_withoutLR (a0 : List ByteArray) (a1 : ByteArray) (i : Nat) (v3 : List ByteArray) : RT :=
 (.ask (decide ((i : Int) < (a0.length : Int)))
   (.need [0 ≤ (i : Int) ∧ (i : Int) < (a0.length : Int)]
     (.ask (!(decide ((a0.getD i default) = a1)))
       (.need [0 ≤ (i : Int) ∧ (i : Int) < (a0.length : Int)]
         (.need [(v3.length + [(a0.getD i default)].length) * 16 ≤ bytesLim ∧ v3.length + [(a0.getD i default)].length ≤ maxLen]
           (.leaf .normal ⟨slots 27 [(0, .coll ⟨.str, a0⟩), (1, .str a1), (5, .vec 0), (6, .int .i64 (IntKind.i64.wrap ((i : Int) + (1 : Int))))], [.vec true ⟨.str, (v3 ++ [(a0.getD i default)])⟩]⟩ [2])))
       (.leaf .normal ⟨slots 27 [(0, .coll ⟨.str, a0⟩), (1, .str a1), (5, .vec 0), (6, .int .i64 (IntKind.i64.wrap ((i : Int) + (1 : Int))))], [.vec true ⟨.str, v3⟩]⟩ [])))
   (.leaf (.exit 0) ⟨slots 27 [(5, .vec 0)], [.vec true ⟨.str, v3⟩]⟩ []))
def Z4d (a0 : List ByteArray) (a1 : ByteArray) (i : Nat) (v3 : List ByteArray) : Tree :=
 .leaf (.exit 0) ⟨slots 27 [(5, .vec 0)], [.vec true ⟨.str, Z31 a1 (a0.drop i) v3⟩]⟩
theorem r10_withoutL_loop (a0 : List ByteArray) (a1 : ByteArray) (hp0 : a0.length ≤ 1000) (hlen : a0.length < 4611686018427387904) (z : { z : Nat × List ByteArray // z.1 ≤ a0.length ∧ z.2.length ≤ 2 * z.1 }) (Q : Exit → St → Prop) (h : (Z4d a0 a1 z.1.1 z.1.2).All Q) : Tr Try.prog 0 (.loop (loopAt Try.f111 0)) (Z60 a0 a1 z.1.1 z.1.2) Q := by
 refine Tr_loopT (kok _ _ _ _ _ _) (E := E_r10_without) (ι := { z : Nat × List ByteArray // z.1 ≤ a0.length ∧ z.2.length ≤ 2 * z.1 }) 60 0 (fun _ => noLoops) (fun z => Z60 a0 a1 z.1.1 z.1.2) (fun z => Z4d a0 a1 z.1.1 z.1.2) (fun z => r10_withoutLR a0 a1 z.1.1 z.1.2) (fun z => a0.length - z.1.1) (fun _ => Z10.none) (fun z => by obtain ⟨⟨i, v3⟩, hi⟩ := z; kernel_rfl) (fun z => by obtain ⟨⟨i, v3⟩, hi⟩ := z; kernel_rfl) (fun z => by obtain ⟨⟨i, v3⟩, hi⟩ := z; kernel_rfl) ?_ z Q h
 rintro ⟨⟨i, v3⟩, hi⟩ Q hT
 replace hT : (Z4d a0 a1 i v3).All Q := hT
 replace hi : i ≤ a0.length ∧ v3.length ≤ 2 * i := hi
 show (r10_withoutLR a0 a1 i v3).All _
 unfold r10_withoutLR
 refine ⟨fun h0 => ?_, fun h0 => ?_⟩
 · have hlt : i < a0.length := by simpa using h0
   have hd := drop_getD hlt
   have hw := wrap_succ (i := i) (by omega)
   refine ⟨Z1 (by (try refine fun (_ : _ = _) => ?_); (try refine fun (_ : _ ∧ _) => ?_); first | omega | (constructor <;> omega)) (Z7), ?_⟩
   refine ⟨fun h1 => ?_, fun h1 => ?_⟩
   · refine ⟨Z1 (by (try refine fun (_ : _ = _) => ?_); (try refine fun (_ : _ ∧ _) => ?_); first | omega | (constructor <;> omega)) (Z7), ?_⟩
     refine ⟨Z1 (by (try refine fun (_ : _ = _) => ?_); (try refine fun (_ : _ ∧ _) => ?_); unfold bytesLim maxLen; (try simp only [List.length_append, List.length_cons, List.length_nil, List.length_drop, List.length_take]); omega) (Z7), ?_⟩
     have hF : Z31 a1 (a0.drop i) v3 = Z31 a1 (a0.drop (i + 1)) (v3 ++ [(a0.getD i default)]) := by rw [hd]; first | exact (Zd h1 rfl) | simp only [Z31, h0, h1, cond_true, cond_false]
     refine ⟨⟨((i + 1), (v3 ++ [(a0.getD i default)])), by (first | dsimp only | skip); constructor <;> (try simp only [List.length_append, List.length_cons, List.length_nil]) <;> omega⟩, by show a0.length - (i + 1) < a0.length - i; omega, ?_, ?_⟩
     · show _ = Z60 a0 a1 (i + 1) (v3 ++ [(a0.getD i default)])
       unfold Z60
       simp only [hw]
     · show (Z4d a0 a1 (i + 1) (v3 ++ [(a0.getD i default)])).All Q
       unfold Z4d at hT ⊢
       rw [hF] at hT
       exact hT
   · have hF : Z31 a1 (a0.drop i) v3 = Z31 a1 (a0.drop (i + 1)) v3 := by rw [hd]; first | exact (Z4 h1 rfl) | simp only [Z31, h0, h1, cond_true, cond_false]
     refine ⟨⟨((i + 1), v3), by (first | dsimp only | skip); constructor <;> (try simp only [List.length_append, List.length_cons, List.length_nil]) <;> omega⟩, by show a0.length - (i + 1) < a0.length - i; omega, ?_, ?_⟩
     · show _ = Z60 a0 a1 (i + 1) v3
       unfold Z60
       simp only [hw]
     · show (Z4d a0 a1 (i + 1) v3).All Q
       unfold Z4d at hT ⊢
       rw [hF] at hT
       exact hT
 · have hge : ¬ i < a0.length := by simpa using h0
   have hd : a0.drop i = [] := List.drop_eq_nil_of_le (by omega)
   have hF : Z31 a1 (a0.drop i) v3 = v3 := by rw [hd]; first | exact rfl | simp only [Z31, h0, cond_true, cond_false]
   unfold Z4d at hT
   rw [hF] at hT
   exact hT
def Z5d (a0 : List ByteArray) (a1 : ByteArray) : List ByteArray :=
 Z31 a1 a0 []
def r10_withoutR (a0 : List ByteArray) (a1 : ByteArray) : RT :=
 (.leaf .ret ⟨slots 27 [(4, .vec 0)], [.vec true ⟨.str, Z31 a1 a0 []⟩]⟩ [])
theorem r10_withoutF_tr (a0 : List ByteArray) (a1 : ByteArray) (hp0 : a0.length ≤ 1000) : Tr Try.prog 0 (bodyOf Try.f111) (fnBegins Try.f111 [.coll ⟨.str, a0⟩, .str a1] []) (fnEnds Try.prog Try.f111 (.vec 0) [.vec true ⟨.str, Z5d a0 a1⟩]) := by
 refine Tr_tree (kok _ _ _ _ _ _) (E := E_r10_without) (L := (loopsOf [(0, Z60 a0 a1 0 [], [1], Z4d a0 a1 0 [])])) 60 9999 (Z10.one (g := loopAt Try.f111 0) (b := 0) (by kernel_rfl) (by kernel_rfl) (by kernel_rfl) (by kernel_rfl) (fun Q h => r10_withoutL_loop a0 a1 hp0 (by omega) ⟨(0, []), ⟨Nat.zero_le _, Nat.zero_le _⟩⟩ Q h)) (r10_withoutR a0 a1) (by kernel_rfl) (by kernel_rfl) (by kernel_rfl) ?_
 unfold r10_withoutR
 exact ⟨trivial, .inl (by kernel_rfl), by kernel_rfl⟩
noncomputable def r10_without_fact : Fact Try.prog := factOf 111 Try.f111 (by kernel_rfl) rfl (by kernel_rfl) [.c (.coll .str), .c (.str)] [] false (fun t u => .vec 0) (fun t u => [.vec true ⟨.str, Z5d t.1 t.2.1⟩]) (fun t u => [t.1.length ≤ 1000])
 (nofun) (fun t u => by kernel_rfl) (fun t u => by kernel_rfl) (fun t u h => r10_withoutF_tr t.1 t.2.1 (h _ List.mem_cons_self))
noncomputable def E_rD_do : Env := envOf (P := Try.prog) [rD_vol_fact, rD_create_fact, r10_failed_fact, rD_zone_fact, r10_with_fact, r10_without_fact, rD_expand_fact, rD_cut_fact, rD_snap_fact] [] [] ckf true
def Z12 (a1 : XCall) (b1 : List XZone) (b2 : List XVol) (b3 : List XSnap) (b4 : List XDone) : XRes × List XZone × List XVol × List XSnap × List XDone :=
 cond (a1.verb == (1 : Int))
  (((Z9 a1 b1 b2 b3 b4).1), (Z9 a1 b1 b2 b3 b4).2.1, (Z9 a1 b1 b2 b3 b4).2.2.1, (Z9 a1 b1 b2 b3 b4).2.2.2.1, (Z9 a1 b1 b2 b3 b4).2.2.2.2)
  (cond (a1.verb == (2 : Int))
    (cond (decide ((Z3 a1.target b1 b2 b3 b4) < (0 : Int)))
      ((default : XRes), b1, b2, b3, b4)
      (cond (decide ((((b2.getD ((Z3 a1.target b1 b2 b3 b4).toNat) default).nodes).length : Int) > (0 : Int)))
        ((Z6 (10 : Int)), b1, b2, b3, b4)
        ((default : XRes), (b1.set ((Zf ((b2.getD ((Z3 a1.target b1 b2 b3 b4).toNat) default).zone) b1 b2 b3 b4).toNat) (⟨(b1.getD ((Zf ((b2.getD ((Z3 a1.target b1 b2 b3 b4).toNat) default).zone) b1 b2 b3 b4).toNat) default).name, (IntKind.i64.wrap (((b1.getD ((Zf ((b2.getD ((Z3 a1.target b1 b2 b3 b4).toNat) default).zone) b1 b2 b3 b4).toNat) default).room) + ((b2.getD ((Z3 a1.target b1 b2 b3 b4).toNat) default).size)))⟩ : XZone)), (([] ++ ((b2.take ((Z3 a1.target b1 b2 b3 b4).toNat)).drop 0)) ++ ((b2.take ((b2.length : Int).toNat)).drop ((IntKind.i64.wrap ((Z3 a1.target b1 b2 b3 b4) + (1 : Int))).toNat))), b3, b4)))
    (cond (a1.verb == (3 : Int))
      (cond (decide ((Z3 a1.target b1 b2 b3 b4) < (0 : Int)))
        ((Z6 (5 : Int)), b1, b2, b3, b4)
        ((default : XRes), b1, (b2.set ((Z3 a1.target b1 b2 b3 b4).toNat) (⟨(b2.getD ((Z3 a1.target b1 b2 b3 b4).toNat) default).name, ((b2.getD ((Z3 a1.target b1 b2 b3 b4).toNat) default).size), (b2.getD ((Z3 a1.target b1 b2 b3 b4).toNat) default).zone, ((b2.getD ((Z3 a1.target b1 b2 b3 b4).toNat) default).tag), Z62 ((b2.getD ((Z3 a1.target b1 b2 b3 b4).toNat) default).nodes) a1.node⟩ : XVol)), b3, b4))
      (cond (a1.verb == (4 : Int))
        (cond (decide ((Z3 a1.target b1 b2 b3 b4) ≥ (0 : Int)))
          ((default : XRes), b1, (b2.set ((Z3 a1.target b1 b2 b3 b4).toNat) (⟨(b2.getD ((Z3 a1.target b1 b2 b3 b4).toNat) default).name, ((b2.getD ((Z3 a1.target b1 b2 b3 b4).toNat) default).size), (b2.getD ((Z3 a1.target b1 b2 b3 b4).toNat) default).zone, ((b2.getD ((Z3 a1.target b1 b2 b3 b4).toNat) default).tag), Z5d ((b2.getD ((Z3 a1.target b1 b2 b3 b4).toNat) default).nodes) a1.node⟩ : XVol)), b3, b4)
          ((default : XRes), b1, b2, b3, b4))
        (cond (a1.verb == (5 : Int))
          (((Z18 (Z3 a1.target b1 b2 b3 b4) a1 b1 b2 b3 b4).1), (Z18 (Z3 a1.target b1 b2 b3 b4) a1 b1 b2 b3 b4).2.1, (Z18 (Z3 a1.target b1 b2 b3 b4) a1 b1 b2 b3 b4).2.2, b3, b4)
          (cond (a1.verb == (6 : Int))
            (((Z24 a1 b1 b2 b3 b4).1), (Z24 a1 b1 b2 b3 b4).2.1, (Z24 a1 b1 b2 b3 b4).2.2.1, (Z24 a1 b1 b2 b3 b4).2.2.2.1, (Z24 a1 b1 b2 b3 b4).2.2.2.2)
            (cond (decide ((Z1a a1.target b1 b2 b3 b4) ≥ (0 : Int)))
              ((default : XRes), b1, b2, (([] ++ ((b3.take ((Z1a a1.target b1 b2 b3 b4).toNat)).drop 0)) ++ ((b3.take ((b3.length : Int).toNat)).drop ((IntKind.i64.wrap ((Z1a a1.target b1 b2 b3 b4) + (1 : Int))).toNat))), b4)
              ((default : XRes), b1, b2, b3, b4)))))))
def rD_doR (a1 : XCall) (b1 : List XZone) (b2 : List XVol) (b3 : List XSnap) (b4 : List XDone) : RT :=
 (.need [b1.length ≤ 1000, b2.length ≤ 1000, b3.length ≤ 1000, b4.length ≤ 1000]
   (.ask (a1.verb == (1 : Int))
     (.need [b1.length ≤ 1000, b2.length ≤ 1000, b3.length ≤ 1000, b4.length ≤ 1000, ∀ v ∈ b2, v.nodes.length ≤ 1000, ∀ v ∈ b2, ZHas b1 v.zone]
       (.leaf .ret ⟨slots 167 [(4, .ptr 5 0)], (.cells 106 [.vec 6, .vec 7, .vec 8, .vec 9] :: .dead :: .dead :: .dead :: .dead :: .cells 52 [.int .i64 (((Z9 a1 b1 b2 b3 b4).1).err), .int .i64 (((Z9 a1 b1 b2 b3 b4).1).size), .str (((Z9 a1 b1 b2 b3 b4).1).zone), .int .u64 (((Z9 a1 b1 b2 b3 b4).1).tag)] :: oV ((Z9 a1 b1 b2 b3 b4).2.1) ((Z9 a1 b1 b2 b3 b4).2.2.1) ((Z9 a1 b1 b2 b3 b4).2.2.2.1) ((Z9 a1 b1 b2 b3 b4).2.2.2.2) [])⟩ [0, 1, 2, 3, 4, 6, 7, 8, 9, 10]))
     (.ask (a1.verb == (2 : Int))
       (.ask (decide ((Z3 a1.target b1 b2 b3 b4) < (0 : Int)))
         (.leaf .ret ⟨slots 167 [(4, .ptr 5 0)], (.cells 106 [.vec 1, .vec 2, .vec 3, .vec 4] :: oV b1 b2 b3 b4 [.cells 52 [.int .i64 0, .int .i64 0, .str (⟨#[]⟩ : ByteArray), .int .u64 0]])⟩ [0, 1, 2, 3, 4, 6])
         (.need [0 ≤ (Z3 a1.target b1 b2 b3 b4) ∧ (Z3 a1.target b1 b2 b3 b4) < (b2.length : Int)]
           (.ask (decide ((((b2.getD ((Z3 a1.target b1 b2 b3 b4).toNat) default).nodes).length : Int) > (0 : Int)))
             (.leaf .ret ⟨slots 167 [(4, .ptr 5 0)], (.cells 106 [.vec 1, .vec 2, .vec 3, .vec 4] :: oV b1 b2 b3 b4 [.cells 52 [.int .i64 ((Z6 (10 : Int)).err), .int .i64 ((Z6 (10 : Int)).size), .str ((Z6 (10 : Int)).zone), .int .u64 ((Z6 (10 : Int)).tag)]])⟩ [0, 1, 2, 3, 4, 6])
             (.need [0 ≤ (Z3 a1.target b1 b2 b3 b4) ∧ (Z3 a1.target b1 b2 b3 b4) < (b2.length : Int), b1.length ≤ 1000, b2.length ≤ 1000, b3.length ≤ 1000, b4.length ≤ 1000, 0 ≤ (Zf ((b2.getD ((Z3 a1.target b1 b2 b3 b4).toNat) default).zone) b1 b2 b3 b4) ∧ (Zf ((b2.getD ((Z3 a1.target b1 b2 b3 b4).toNat) default).zone) b1 b2 b3 b4) < (b1.length : Int), 0 ≤ (Z3 a1.target b1 b2 b3 b4) ∧ (Z3 a1.target b1 b2 b3 b4) < (b2.length : Int), 0 ≤ (Zf ((b2.getD ((Z3 a1.target b1 b2 b3 b4).toNat) default).zone) b1 b2 b3 b4) ∧ (Zf ((b2.getD ((Z3 a1.target b1 b2 b3 b4).toNat) default).zone) b1 b2 b3 b4) < (b1.length : Int)]
               (.need [0 ≤ (0 : Int) ∧ (0 : Int) ≤ (Z3 a1.target b1 b2 b3 b4) ∧ (Z3 a1.target b1 b2 b3 b4) ≤ (b2.length : Int), (([] : List XVol).length + ((b2.take ((Z3 a1.target b1 b2 b3 b4).toNat)).drop 0).length) * 72 ≤ bytesLim ∧ ([] : List XVol).length + ((b2.take ((Z3 a1.target b1 b2 b3 b4).toNat)).drop 0).length ≤ maxLen, 0 ≤ (IntKind.i64.wrap ((Z3 a1.target b1 b2 b3 b4) + (1 : Int))) ∧ (IntKind.i64.wrap ((Z3 a1.target b1 b2 b3 b4) + (1 : Int))) ≤ (b2.length : Int) ∧ (b2.length : Int) ≤ (b2.length : Int), (([] ++ ((b2.take ((Z3 a1.target b1 b2 b3 b4).toNat)).drop 0)).length + ((b2.take ((b2.length : Int).toNat)).drop ((IntKind.i64.wrap ((Z3 a1.target b1 b2 b3 b4) + (1 : Int))).toNat)).length) * 72 ≤ bytesLim ∧ ([] ++ ((b2.take ((Z3 a1.target b1 b2 b3 b4).toNat)).drop 0)).length + ((b2.take ((b2.length : Int).toNat)).drop ((IntKind.i64.wrap ((Z3 a1.target b1 b2 b3 b4) + (1 : Int))).toNat)).length ≤ maxLen]
                 (.leaf .ret ⟨slots 167 [(4, .ptr 5 0)], (.cells 106 [.vec 1, .vec 6, .vec 3, .vec 4] :: oV (b1.set ((Zf ((b2.getD ((Z3 a1.target b1 b2 b3 b4).toNat) default).zone) b1 b2 b3 b4).toNat) (⟨(b1.getD ((Zf ((b2.getD ((Z3 a1.target b1 b2 b3 b4).toNat) default).zone) b1 b2 b3 b4).toNat) default).name, (IntKind.i64.wrap (((b1.getD ((Zf ((b2.getD ((Z3 a1.target b1 b2 b3 b4).toNat) default).zone) b1 b2 b3 b4).toNat) default).room) + ((b2.getD ((Z3 a1.target b1 b2 b3 b4).toNat) default).size)))⟩ : XZone)) b2 b3 b4 [.cells 52 [.int .i64 0, .int .i64 0, .str (⟨#[]⟩ : ByteArray), .int .u64 0], .vec false ⟨.vol, (([] ++ ((b2.take ((Z3 a1.target b1 b2 b3 b4).toNat)).drop 0)) ++ ((b2.take ((b2.length : Int).toNat)).drop ((IntKind.i64.wrap ((Z3 a1.target b1 b2 b3 b4) + (1 : Int))).toNat)))⟩])⟩ [0, 1, 2, 3, 4, 6, 9]))))))
       (.ask (a1.verb == (3 : Int))
         (.ask (decide ((Z3 a1.target b1 b2 b3 b4) < (0 : Int)))
           (.leaf .ret ⟨slots 167 [(4, .ptr 5 0)], (.cells 106 [.vec 1, .vec 2, .vec 3, .vec 4] :: oV b1 b2 b3 b4 [.cells 52 [.int .i64 ((Z6 (5 : Int)).err), .int .i64 ((Z6 (5 : Int)).size), .str ((Z6 (5 : Int)).zone), .int .u64 ((Z6 (5 : Int)).tag)]])⟩ [0, 1, 2, 3, 4, 6])
           (.need [0 ≤ (Z3 a1.target b1 b2 b3 b4) ∧ (Z3 a1.target b1 b2 b3 b4) < (b2.length : Int), ((b2.getD ((Z3 a1.target b1 b2 b3 b4).toNat) default).nodes).length ≤ 1000, 0 ≤ (Z3 a1.target b1 b2 b3 b4) ∧ (Z3 a1.target b1 b2 b3 b4) < (b2.length : Int)]
             (.leaf .ret ⟨slots 167 [(4, .ptr 5 0)], (.cells 106 [.vec 1, .vec 2, .vec 3, .vec 4] :: oV b1 (b2.set ((Z3 a1.target b1 b2 b3 b4).toNat) (⟨(b2.getD ((Z3 a1.target b1 b2 b3 b4).toNat) default).name, ((b2.getD ((Z3 a1.target b1 b2 b3 b4).toNat) default).size), (b2.getD ((Z3 a1.target b1 b2 b3 b4).toNat) default).zone, ((b2.getD ((Z3 a1.target b1 b2 b3 b4).toNat) default).tag), Z62 ((b2.getD ((Z3 a1.target b1 b2 b3 b4).toNat) default).nodes) a1.node⟩ : XVol)) b3 b4 [.cells 52 [.int .i64 0, .int .i64 0, .str (⟨#[]⟩ : ByteArray), .int .u64 0]])⟩ [0, 1, 2, 3, 4, 6])))
         (.ask (a1.verb == (4 : Int))
           (.ask (decide ((Z3 a1.target b1 b2 b3 b4) ≥ (0 : Int)))
             (.need [0 ≤ (Z3 a1.target b1 b2 b3 b4) ∧ (Z3 a1.target b1 b2 b3 b4) < (b2.length : Int), ((b2.getD ((Z3 a1.target b1 b2 b3 b4).toNat) default).nodes).length ≤ 1000, 0 ≤ (Z3 a1.target b1 b2 b3 b4) ∧ (Z3 a1.target b1 b2 b3 b4) < (b2.length : Int)]
               (.leaf .ret ⟨slots 167 [(4, .ptr 5 0)], (.cells 106 [.vec 1, .vec 2, .vec 3, .vec 4] :: oV b1 (b2.set ((Z3 a1.target b1 b2 b3 b4).toNat) (⟨(b2.getD ((Z3 a1.target b1 b2 b3 b4).toNat) default).name, ((b2.getD ((Z3 a1.target b1 b2 b3 b4).toNat) default).size), (b2.getD ((Z3 a1.target b1 b2 b3 b4).toNat) default).zone, ((b2.getD ((Z3 a1.target b1 b2 b3 b4).toNat) default).tag), Z5d ((b2.getD ((Z3 a1.target b1 b2 b3 b4).toNat) default).nodes) a1.node⟩ : XVol)) b3 b4 [.cells 52 [.int .i64 0, .int .i64 0, .str (⟨#[]⟩ : ByteArray), .int .u64 0]])⟩ [0, 1, 2, 3, 4, 6]))
             (.leaf .ret ⟨slots 167 [(4, .ptr 5 0)], (.cells 106 [.vec 1, .vec 2, .vec 3, .vec 4] :: oV b1 b2 b3 b4 [.cells 52 [.int .i64 0, .int .i64 0, .str (⟨#[]⟩ : ByteArray), .int .u64 0]])⟩ [0, 1, 2, 3, 4, 6]))
           (.ask (a1.verb == (5 : Int))
             (.need [b1.length ≤ 1000, b2.length ≤ 1000, b3.length ≤ 1000, b4.length ≤ 1000, ∀ v ∈ b2, v.nodes.length ≤ 1000, ∀ v ∈ b2, ZHas b1 v.zone, (Z3 a1.target b1 b2 b3 b4) < (b2.length : Int)]
               (.leaf .ret ⟨slots 167 [(4, .ptr 5 0)], (.cells 106 [.vec 1, .vec 2, .vec 3, .vec 4] :: oV ((Z18 (Z3 a1.target b1 b2 b3 b4) a1 b1 b2 b3 b4).2.1) ((Z18 (Z3 a1.target b1 b2 b3 b4) a1 b1 b2 b3 b4).2.2) b3 b4 [.cells 52 [.int .i64 (((Z18 (Z3 a1.target b1 b2 b3 b4) a1 b1 b2 b3 b4).1).err), .int .i64 (((Z18 (Z3 a1.target b1 b2 b3 b4) a1 b1 b2 b3 b4).1).size), .str (((Z18 (Z3 a1.target b1 b2 b3 b4) a1 b1 b2 b3 b4).1).zone), .int .u64 (((Z18 (Z3 a1.target b1 b2 b3 b4) a1 b1 b2 b3 b4).1).tag)]])⟩ [0, 1, 2, 3, 4, 6]))
             (.ask (a1.verb == (6 : Int))
               (.need [b1.length ≤ 1000, b2.length ≤ 1000, b3.length ≤ 1000, b4.length ≤ 1000, ∀ v ∈ b2, v.nodes.length ≤ 1000, ∀ v ∈ b2, ZHas b1 v.zone]
                 (.leaf .ret ⟨slots 167 [(4, .ptr 5 0)], (.cells 106 [.vec 6, .vec 7, .vec 8, .vec 9] :: .dead :: .dead :: .dead :: .dead :: .cells 52 [.int .i64 (((Z24 a1 b1 b2 b3 b4).1).err), .int .i64 (((Z24 a1 b1 b2 b3 b4).1).size), .str (((Z24 a1 b1 b2 b3 b4).1).zone), .int .u64 (((Z24 a1 b1 b2 b3 b4).1).tag)] :: oV ((Z24 a1 b1 b2 b3 b4).2.1) ((Z24 a1 b1 b2 b3 b4).2.2.1) ((Z24 a1 b1 b2 b3 b4).2.2.2.1) ((Z24 a1 b1 b2 b3 b4).2.2.2.2) [])⟩ [0, 1, 2, 3, 4, 6, 7, 8, 9, 10]))
               (.need [b1.length ≤ 1000, b2.length ≤ 1000, b3.length ≤ 1000, b4.length ≤ 1000]
                 (.ask (decide ((Z1a a1.target b1 b2 b3 b4) ≥ (0 : Int)))
                   (.need [0 ≤ (0 : Int) ∧ (0 : Int) ≤ (Z1a a1.target b1 b2 b3 b4) ∧ (Z1a a1.target b1 b2 b3 b4) ≤ (b3.length : Int), (([] : List XSnap).length + ((b3.take ((Z1a a1.target b1 b2 b3 b4).toNat)).drop 0).length) * 32 ≤ bytesLim ∧ ([] : List XSnap).length + ((b3.take ((Z1a a1.target b1 b2 b3 b4).toNat)).drop 0).length ≤ maxLen, 0 ≤ (IntKind.i64.wrap ((Z1a a1.target b1 b2 b3 b4) + (1 : Int))) ∧ (IntKind.i64.wrap ((Z1a a1.target b1 b2 b3 b4) + (1 : Int))) ≤ (b3.length : Int) ∧ (b3.length : Int) ≤ (b3.length : Int), (([] ++ ((b3.take ((Z1a a1.target b1 b2 b3 b4).toNat)).drop 0)).length + ((b3.take ((b3.length : Int).toNat)).drop ((IntKind.i64.wrap ((Z1a a1.target b1 b2 b3 b4) + (1 : Int))).toNat)).length) * 32 ≤ bytesLim ∧ ([] ++ ((b3.take ((Z1a a1.target b1 b2 b3 b4).toNat)).drop 0)).length + ((b3.take ((b3.length : Int).toNat)).drop ((IntKind.i64.wrap ((Z1a a1.target b1 b2 b3 b4) + (1 : Int))).toNat)).length ≤ maxLen]
                     (.leaf .ret ⟨slots 167 [(4, .ptr 5 0)], (.cells 106 [.vec 1, .vec 2, .vec 6, .vec 4] :: oV b1 b2 b3 b4 [.cells 52 [.int .i64 0, .int .i64 0, .str (⟨#[]⟩ : ByteArray), .int .u64 0], .vec false ⟨.snap, (([] ++ ((b3.take ((Z1a a1.target b1 b2 b3 b4).toNat)).drop 0)) ++ ((b3.take ((b3.length : Int).toNat)).drop ((IntKind.i64.wrap ((Z1a a1.target b1 b2 b3 b4) + (1 : Int))).toNat)))⟩])⟩ [0, 1, 2, 3, 4, 6, 9]))
                   (.leaf .ret ⟨slots 167 [(4, .ptr 5 0)], (.cells 106 [.vec 1, .vec 2, .vec 3, .vec 4] :: oV b1 b2 b3 b4 [.cells 52 [.int .i64 0, .int .i64 0, .str (⟨#[]⟩ : ByteArray), .int .u64 0]])⟩ [0, 1, 2, 3, 4, 6]))))))))))
theorem rD_doF_tr (a1 : XCall) (b1 : List XZone) (b2 : List XVol) (b3 : List XSnap) (b4 : List XDone) (hp0 : b1.length ≤ 1000) (hp1 : b2.length ≤ 1000) (hp2 : b3.length ≤ 1000) (hp3 : b4.length ≤ 1000) (hp4 : ∀ v ∈ b2, v.nodes.length ≤ 1000) (hp5 : ∀ v ∈ b2, ZHas b1 v.zone) : Tr Try.prog 5 (bodyOf Try.f97) (fnBegins Try.f97 [.ptr 0 0, .agg (cc a1)] (.cells 106 [.vec 1, .vec 2, .vec 3, .vec 4] :: oV b1 b2 b3 b4 [])) (fnEnds Try.prog Try.f97 (.agg [.int .i64 (((Z12 a1 b1 b2 b3 b4).1).err), .int .i64 (((Z12 a1 b1 b2 b3 b4).1).size), .str (((Z12 a1 b1 b2 b3 b4).1).zone), .int .u64 (((Z12 a1 b1 b2 b3 b4).1).tag)]) (.cells 106 [.vec 5, .vec 6, .vec 7, .vec 8] :: .dead :: .dead :: .dead :: .dead :: oV ((Z12 a1 b1 b2 b3 b4).2.1) ((Z12 a1 b1 b2 b3 b4).2.2.1) ((Z12 a1 b1 b2 b3 b4).2.2.2.1) ((Z12 a1 b1 b2 b3 b4).2.2.2.2) [])) := by
 refine Tr.post ?_
 refine Tr_tree (kok _ _ _ _ _ _) (E := E_rD_do) (L := noLoops) 60 9999 Z10.none (rD_doR a1 b1 b2 b3 b4) (by kernel_rfl) (by kernel_rfl) (by kernel_rfl) ?_
 unfold rD_doR
 refine ⟨(by (iterate 4 refine Z1 (by (try refine fun (_ : _ = _) => ?_); (try refine fun (_ : _ ∧ _) => ?_); (try have hq := rngs a1 b1 b2 b3 b4); (try simp only [decide_eq_true_eq, decide_eq_false_iff_not, Bool.not_eq_false'] at *); first | omega | (constructor <;> omega)) ?_); exact Z7), ?_⟩
 refine ⟨fun h0 => ?_, fun h0 => ?_⟩
 · refine ⟨(by (iterate 4 refine Z1 (by (try refine fun (_ : _ = _) => ?_); (try refine fun (_ : _ ∧ _) => ?_); (try have hq := rngs a1 b1 b2 b3 b4); (try simp only [decide_eq_true_eq, decide_eq_false_iff_not, Bool.not_eq_false'] at *); first | omega | (constructor <;> omega)) ?_); (iterate 2 refine Z1 (by assumption) ?_); exact Z7), ?_⟩
   have hF : Z12 a1 b1 b2 b3 b4 = (((Z9 a1 b1 b2 b3 b4).1), (Z9 a1 b1 b2 b3 b4).2.1, (Z9 a1 b1 b2 b3 b4).2.2.1, (Z9 a1 b1 b2 b3 b4).2.2.2.1, (Z9 a1 b1 b2 b3 b4).2.2.2.2) := by first | exact (Zd h0 rfl) | simp only [Z12, h0, cond_true, cond_false]
   exact ⟨_, ((((Turn.moveC 0 0 6 10 rfl rfl rfl (by simp [hset, oM, oV])).trans (Turn.moveC 0 1 7 11 rfl rfl rfl (by simp [hset, oM, oV]))).trans (Turn.moveC 0 2 8 12 rfl rfl rfl (by simp [hset, oM, oV]))).trans (Turn.moveC 0 3 9 13 rfl rfl rfl (by simp [hset, oM, oV]))).trans (Turn.fits (p := ⟨slots 167 [(4, .ptr 9 0)], (.cells 106 [.vec 5, .vec 6, .vec 7, .vec 8] :: .dead :: .dead :: .dead :: .dead :: oV ((Z9 a1 b1 b2 b3 b4).2.1) ((Z9 a1 b1 b2 b3 b4).2.2.1) ((Z9 a1 b1 b2 b3 b4).2.2.2.1) ((Z9 a1 b1 b2 b3 b4).2.2.2.2) [.cells 52 [.int .i64 (((Z9 a1 b1 b2 b3 b4).1).err), .int .i64 (((Z9 a1 b1 b2 b3 b4).1).size), .str (((Z9 a1 b1 b2 b3 b4).1).zone), .int .u64 (((Z9 a1 b1 b2 b3 b4).1).tag)]])⟩) [0, 1, 2, 3, 4, 10, 11, 12, 13, 5] (by kernel_rfl) (by kernel_rfl) (by kernel_rfl) (by kernel_rfl)), trivial, .inl (by (try rw [hF]); kernel_rfl), by (try rw [hF]); kernel_rfl⟩
 · refine ⟨fun h1 => ?_, fun h1 => ?_⟩
   · refine ⟨fun h2 => ?_, fun h2 => ?_⟩
     · have hF : Z12 a1 b1 b2 b3 b4 = ((default : XRes), b1, b2, b3, b4) := by first | exact (Z4 h0 (Zd h1 (Zd h2 rfl))) | simp only [Z12, h0, h1, h2, cond_true, cond_false]
       exact ⟨_, ((((Turn.moveC 0 0 1 6 rfl rfl rfl (by simp [hset, oM, oV])).trans (Turn.moveC 0 1 2 7 rfl rfl rfl (by simp [hset, oM, oV]))).trans (Turn.moveC 0 2 3 8 rfl rfl rfl (by simp [hset, oM, oV]))).trans (Turn.moveC 0 3 4 9 rfl rfl rfl (by simp [hset, oM, oV]))).trans (Turn.fits (p := ⟨slots 167 [(4, .ptr 9 0)], (.cells 106 [.vec 5, .vec 6, .vec 7, .vec 8] :: .dead :: .dead :: .dead :: .dead :: oV b1 b2 b3 b4 [.cells 52 [.int .i64 0, .int .i64 0, .str (⟨#[]⟩ : ByteArray), .int .u64 0]])⟩) [0, 1, 2, 3, 4, 6, 7, 8, 9, 5] (by kernel_rfl) (by kernel_rfl) (by kernel_rfl) (by kernel_rfl)), trivial, .inl (by (try rw [hF]); kernel_rfl), by (try rw [hF]); kernel_rfl⟩
     · refine ⟨Z1 (by (try refine fun (_ : _ = _) => ?_); (try refine fun (_ : _ ∧ _) => ?_); (try have hq := rngs a1 b1 b2 b3 b4); (try simp only [decide_eq_true_eq, decide_eq_false_iff_not, Bool.not_eq_false'] at *); first | omega | (constructor <;> omega)) (Z7), ?_⟩
       refine ⟨fun h3 => ?_, fun h3 => ?_⟩
       · have hF : Z12 a1 b1 b2 b3 b4 = ((Z6 (10 : Int)), b1, b2, b3, b4) := by first | exact (Z4 h0 (Zd h1 (Z4 h2 (Zd h3 rfl)))) | simp only [Z12, h0, h1, h2, h3, cond_true, cond_false]
         exact ⟨_, ((((Turn.moveC 0 0 1 6 rfl rfl rfl (by simp [hset, oM, oV])).trans (Turn.moveC 0 1 2 7 rfl rfl rfl (by simp [hset, oM, oV]))).trans (Turn.moveC 0 2 3 8 rfl rfl rfl (by simp [hset, oM, oV]))).trans (Turn.moveC 0 3 4 9 rfl rfl rfl (by simp [hset, oM, oV]))).trans (Turn.fits (p := ⟨slots 167 [(4, .ptr 9 0)], (.cells 106 [.vec 5, .vec 6, .vec 7, .vec 8] :: .dead :: .dead :: .dead :: .dead :: oV b1 b2 b3 b4 [.cells 52 [.int .i64 ((Z6 (10 : Int)).err), .int .i64 ((Z6 (10 : Int)).size), .str ((Z6 (10 : Int)).zone), .int .u64 ((Z6 (10 : Int)).tag)]])⟩) [0, 1, 2, 3, 4, 6, 7, 8, 9, 5] (by kernel_rfl) (by kernel_rfl) (by kernel_rfl) (by kernel_rfl)), trivial, .inl (by (try rw [hF]); kernel_rfl), by (try rw [hF]); kernel_rfl⟩
       · refine ⟨(by (iterate 5 refine Z1 (by (try refine fun (_ : _ = _) => ?_); (try refine fun (_ : _ ∧ _) => ?_); (try have hq := rngs a1 b1 b2 b3 b4); (try simp only [decide_eq_true_eq, decide_eq_false_iff_not, Bool.not_eq_false'] at *); first | omega | (constructor <;> omega)) ?_); refine Z1 (by (try refine fun (_ : _ = _) => ?_); (try refine fun (_ : _ ∧ _) => ?_); (try have hq := rngs a1 b1 b2 b3 b4); (try simp only [decide_eq_true_eq, decide_eq_false_iff_not, Bool.not_eq_false'] at *); refine ⟨zone_has (hp5 _ (gD_memI ?_ ?_)) _ _ _, (zone_rng _ _ _ _ _).2⟩ <;> omega) ?_; refine Z1 (by (try refine fun (_ : _ = _) => ?_); (try refine fun (_ : _ ∧ _) => ?_); (try have hq := rngs a1 b1 b2 b3 b4); (try simp only [decide_eq_true_eq, decide_eq_false_iff_not, Bool.not_eq_false'] at *); first | omega | (constructor <;> omega)) ?_; refine Z1 (by (try refine fun (_ : _ = _) => ?_); (try refine fun (_ : _ ∧ _) => ?_); (try have hq := rngs a1 b1 b2 b3 b4); (try simp only [decide_eq_true_eq, decide_eq_false_iff_not, Bool.not_eq_false'] at *); refine ⟨zone_has (hp5 _ (gD_memI ?_ ?_)) _ _ _, (zone_rng _ _ _ _ _).2⟩ <;> omega) ?_; exact Z7), ?_⟩
         refine ⟨(by refine Z1 (by (try refine fun (_ : _ = _) => ?_); (try refine fun (_ : _ ∧ _) => ?_); (try have hq := rngs a1 b1 b2 b3 b4); (try simp only [decide_eq_true_eq, decide_eq_false_iff_not, Bool.not_eq_false'] at *); first | omega | (constructor <;> omega)) ?_; refine Z1 (by (try refine fun (_ : _ = _) => ?_); (try refine fun (_ : _ ∧ _) => ?_); (try have hq := rngs a1 b1 b2 b3 b4); (try simp only [decide_eq_true_eq, decide_eq_false_iff_not, Bool.not_eq_false'] at *); unfold bytesLim maxLen; (try simp only [List.length_append, List.length_cons, List.length_nil, List.length_drop, List.length_take]); omega) ?_; (iterate 2 refine Z1 (by (try refine fun (_ : _ = _) => ?_); (try refine fun (_ : _ ∧ _) => ?_); (try have hq := rngs a1 b1 b2 b3 b4); (try simp only [decide_eq_true_eq, decide_eq_false_iff_not, Bool.not_eq_false'] at *); (try rw [wrap1 (x := Z3 a1.target b1 b2 b3 b4) (by omega) (by omega)]); (try rw [wrap1 (x := Z1a a1.target b1 b2 b3 b4) (by omega) (by omega)]); (try unfold bytesLim); (try unfold maxLen); (try simp only [List.length_append, List.length_cons, List.length_nil, List.length_drop, List.length_take]); omega) ?_); exact Z7), ?_⟩
         have hF : Z12 a1 b1 b2 b3 b4 = ((default : XRes), (b1.set ((Zf ((b2.getD ((Z3 a1.target b1 b2 b3 b4).toNat) default).zone) b1 b2 b3 b4).toNat) (⟨(b1.getD ((Zf ((b2.getD ((Z3 a1.target b1 b2 b3 b4).toNat) default).zone) b1 b2 b3 b4).toNat) default).name, (IntKind.i64.wrap (((b1.getD ((Zf ((b2.getD ((Z3 a1.target b1 b2 b3 b4).toNat) default).zone) b1 b2 b3 b4).toNat) default).room) + ((b2.getD ((Z3 a1.target b1 b2 b3 b4).toNat) default).size)))⟩ : XZone)), (([] ++ ((b2.take ((Z3 a1.target b1 b2 b3 b4).toNat)).drop 0)) ++ ((b2.take ((b2.length : Int).toNat)).drop ((IntKind.i64.wrap ((Z3 a1.target b1 b2 b3 b4) + (1 : Int))).toNat))), b3, b4) := by first | exact (Z4 h0 (Zd h1 (Z4 h2 (Z4 h3 rfl)))) | simp only [Z12, h0, h1, h2, h3, cond_true, cond_false]
         exact ⟨_, ((((Turn.moveC 0 0 1 7 rfl rfl rfl (by simp [hset, oM, oV])).trans (Turn.moveC 0 1 6 8 rfl rfl rfl (by simp [hset, oM, oV]))).trans (Turn.moveC 0 2 3 9 rfl rfl rfl (by simp [hset, oM, oV]))).trans (Turn.moveC 0 3 4 10 rfl rfl rfl (by simp [hset, oM, oV]))).trans (Turn.fits (p := ⟨slots 167 [(4, .ptr 9 0)], (.cells 106 [.vec 5, .vec 6, .vec 7, .vec 8] :: .dead :: .dead :: .dead :: .dead :: oV (b1.set ((Zf ((b2.getD ((Z3 a1.target b1 b2 b3 b4).toNat) default).zone) b1 b2 b3 b4).toNat) (⟨(b1.getD ((Zf ((b2.getD ((Z3 a1.target b1 b2 b3 b4).toNat) default).zone) b1 b2 b3 b4).toNat) default).name, (IntKind.i64.wrap (((b1.getD ((Zf ((b2.getD ((Z3 a1.target b1 b2 b3 b4).toNat) default).zone) b1 b2 b3 b4).toNat) default).room) + ((b2.getD ((Z3 a1.target b1 b2 b3 b4).toNat) default).size)))⟩ : XZone)) (([] ++ ((b2.take ((Z3 a1.target b1 b2 b3 b4).toNat)).drop 0)) ++ ((b2.take ((b2.length : Int).toNat)).drop ((IntKind.i64.wrap ((Z3 a1.target b1 b2 b3 b4) + (1 : Int))).toNat))) b3 b4 [.cells 52 [.int .i64 0, .int .i64 0, .str (⟨#[]⟩ : ByteArray), .int .u64 0]])⟩) [0, 1, 2, 3, 4, 7, 8, 9, 10, 5] (by kernel_rfl) (by kernel_rfl) (by kernel_rfl) (by kernel_rfl)), trivial, .inl (by (try rw [hF]); kernel_rfl), by (try rw [hF]); kernel_rfl⟩
   · refine ⟨fun h2 => ?_, fun h2 => ?_⟩
     · refine ⟨fun h3 => ?_, fun h3 => ?_⟩
       · have hF : Z12 a1 b1 b2 b3 b4 = ((Z6 (5 : Int)), b1, b2, b3, b4) := by first | exact (Z4 h0 (Z4 h1 (Zd h2 (Zd h3 rfl)))) | simp only [Z12, h0, h1, h2, h3, cond_true, cond_false]
         exact ⟨_, ((((Turn.moveC 0 0 1 6 rfl rfl rfl (by simp [hset, oM, oV])).trans (Turn.moveC 0 1 2 7 rfl rfl rfl (by simp [hset, oM, oV]))).trans (Turn.moveC 0 2 3 8 rfl rfl rfl (by simp [hset, oM, oV]))).trans (Turn.moveC 0 3 4 9 rfl rfl rfl (by simp [hset, oM, oV]))).trans (Turn.fits (p := ⟨slots 167 [(4, .ptr 9 0)], (.cells 106 [.vec 5, .vec 6, .vec 7, .vec 8] :: .dead :: .dead :: .dead :: .dead :: oV b1 b2 b3 b4 [.cells 52 [.int .i64 ((Z6 (5 : Int)).err), .int .i64 ((Z6 (5 : Int)).size), .str ((Z6 (5 : Int)).zone), .int .u64 ((Z6 (5 : Int)).tag)]])⟩) [0, 1, 2, 3, 4, 6, 7, 8, 9, 5] (by kernel_rfl) (by kernel_rfl) (by kernel_rfl) (by kernel_rfl)), trivial, .inl (by (try rw [hF]); kernel_rfl), by (try rw [hF]); kernel_rfl⟩
       · refine ⟨Z1 (by (try refine fun (_ : _ = _) => ?_); (try refine fun (_ : _ ∧ _) => ?_); (try have hq := rngs a1 b1 b2 b3 b4); (try simp only [decide_eq_true_eq, decide_eq_false_iff_not, Bool.not_eq_false'] at *); first | omega | (constructor <;> omega)) (Z1 (by (try refine fun (_ : _ = _) => ?_); (try refine fun (_ : _ ∧ _) => ?_); (try have hq := rngs a1 b1 b2 b3 b4); (try simp only [decide_eq_true_eq, decide_eq_false_iff_not, Bool.not_eq_false'] at *); refine hp4 _ (gD_memI ?_ ?_) <;> omega) (Z1 (by (try refine fun (_ : _ = _) => ?_); (try refine fun (_ : _ ∧ _) => ?_); (try have hq := rngs a1 b1 b2 b3 b4); (try simp only [decide_eq_true_eq, decide_eq_false_iff_not, Bool.not_eq_false'] at *); first | omega | (constructor <;> omega)) (Z7))), ?_⟩
         have hF : Z12 a1 b1 b2 b3 b4 = ((default : XRes), b1, (b2.set ((Z3 a1.target b1 b2 b3 b4).toNat) (⟨(b2.getD ((Z3 a1.target b1 b2 b3 b4).toNat) default).name, ((b2.getD ((Z3 a1.target b1 b2 b3 b4).toNat) default).size), (b2.getD ((Z3 a1.target b1 b2 b3 b4).toNat) default).zone, ((b2.getD ((Z3 a1.target b1 b2 b3 b4).toNat) default).tag), Z62 ((b2.getD ((Z3 a1.target b1 b2 b3 b4).toNat) default).nodes) a1.node⟩ : XVol)), b3, b4) := by first | exact (Z4 h0 (Z4 h1 (Zd h2 (Z4 h3 rfl)))) | simp only [Z12, h0, h1, h2, h3, cond_true, cond_false]
         exact ⟨_, ((((Turn.moveC 0 0 1 6 rfl rfl rfl (by simp [hset, oM, oV])).trans (Turn.moveC 0 1 2 7 rfl rfl rfl (by simp [hset, oM, oV]))).trans (Turn.moveC 0 2 3 8 rfl rfl rfl (by simp [hset, oM, oV]))).trans (Turn.moveC 0 3 4 9 rfl rfl rfl (by simp [hset, oM, oV]))).trans (Turn.fits (p := ⟨slots 167 [(4, .ptr 9 0)], (.cells 106 [.vec 5, .vec 6, .vec 7, .vec 8] :: .dead :: .dead :: .dead :: .dead :: oV b1 (b2.set ((Z3 a1.target b1 b2 b3 b4).toNat) (⟨(b2.getD ((Z3 a1.target b1 b2 b3 b4).toNat) default).name, ((b2.getD ((Z3 a1.target b1 b2 b3 b4).toNat) default).size), (b2.getD ((Z3 a1.target b1 b2 b3 b4).toNat) default).zone, ((b2.getD ((Z3 a1.target b1 b2 b3 b4).toNat) default).tag), Z62 ((b2.getD ((Z3 a1.target b1 b2 b3 b4).toNat) default).nodes) a1.node⟩ : XVol)) b3 b4 [.cells 52 [.int .i64 0, .int .i64 0, .str (⟨#[]⟩ : ByteArray), .int .u64 0]])⟩) [0, 1, 2, 3, 4, 6, 7, 8, 9, 5] (by kernel_rfl) (by kernel_rfl) (by kernel_rfl) (by kernel_rfl)), trivial, .inl (by (try rw [hF]); kernel_rfl), by (try rw [hF]); kernel_rfl⟩
     · refine ⟨fun h3 => ?_, fun h3 => ?_⟩
       · refine ⟨fun h4 => ?_, fun h4 => ?_⟩
         · refine ⟨Z1 (by (try refine fun (_ : _ = _) => ?_); (try refine fun (_ : _ ∧ _) => ?_); (try have hq := rngs a1 b1 b2 b3 b4); (try simp only [decide_eq_true_eq, decide_eq_false_iff_not, Bool.not_eq_false'] at *); first | omega | (constructor <;> omega)) (Z1 (by (try refine fun (_ : _ = _) => ?_); (try refine fun (_ : _ ∧ _) => ?_); (try have hq := rngs a1 b1 b2 b3 b4); (try simp only [decide_eq_true_eq, decide_eq_false_iff_not, Bool.not_eq_false'] at *); refine hp4 _ (gD_memI ?_ ?_) <;> omega) (Z1 (by (try refine fun (_ : _ = _) => ?_); (try refine fun (_ : _ ∧ _) => ?_); (try have hq := rngs a1 b1 b2 b3 b4); (try simp only [decide_eq_true_eq, decide_eq_false_iff_not, Bool.not_eq_false'] at *); first | omega | (constructor <;> omega)) (Z7))), ?_⟩
           have hF : Z12 a1 b1 b2 b3 b4 = ((default : XRes), b1, (b2.set ((Z3 a1.target b1 b2 b3 b4).toNat) (⟨(b2.getD ((Z3 a1.target b1 b2 b3 b4).toNat) default).name, ((b2.getD ((Z3 a1.target b1 b2 b3 b4).toNat) default).size), (b2.getD ((Z3 a1.target b1 b2 b3 b4).toNat) default).zone, ((b2.getD ((Z3 a1.target b1 b2 b3 b4).toNat) default).tag), Z5d ((b2.getD ((Z3 a1.target b1 b2 b3 b4).toNat) default).nodes) a1.node⟩ : XVol)), b3, b4) := by first | exact (Z4 h0 (Z4 h1 (Z4 h2 (Zd h3 (Zd h4 rfl))))) | simp only [Z12, h0, h1, h2, h3, h4, cond_true, cond_false]
           exact ⟨_, ((((Turn.moveC 0 0 1 6 rfl rfl rfl (by simp [hset, oM, oV])).trans (Turn.moveC 0 1 2 7 rfl rfl rfl (by simp [hset, oM, oV]))).trans (Turn.moveC 0 2 3 8 rfl rfl rfl (by simp [hset, oM, oV]))).trans (Turn.moveC 0 3 4 9 rfl rfl rfl (by simp [hset, oM, oV]))).trans (Turn.fits (p := ⟨slots 167 [(4, .ptr 9 0)], (.cells 106 [.vec 5, .vec 6, .vec 7, .vec 8] :: .dead :: .dead :: .dead :: .dead :: oV b1 (b2.set ((Z3 a1.target b1 b2 b3 b4).toNat) (⟨(b2.getD ((Z3 a1.target b1 b2 b3 b4).toNat) default).name, ((b2.getD ((Z3 a1.target b1 b2 b3 b4).toNat) default).size), (b2.getD ((Z3 a1.target b1 b2 b3 b4).toNat) default).zone, ((b2.getD ((Z3 a1.target b1 b2 b3 b4).toNat) default).tag), Z5d ((b2.getD ((Z3 a1.target b1 b2 b3 b4).toNat) default).nodes) a1.node⟩ : XVol)) b3 b4 [.cells 52 [.int .i64 0, .int .i64 0, .str (⟨#[]⟩ : ByteArray), .int .u64 0]])⟩) [0, 1, 2, 3, 4, 6, 7, 8, 9, 5] (by kernel_rfl) (by kernel_rfl) (by kernel_rfl) (by kernel_rfl)), trivial, .inl (by (try rw [hF]); kernel_rfl), by (try rw [hF]); kernel_rfl⟩
         · have hF : Z12 a1 b1 b2 b3 b4 = ((default : XRes), b1, b2, b3, b4) := by first | exact (Z4 h0 (Z4 h1 (Z4 h2 (Zd h3 (Z4 h4 rfl))))) | simp only [Z12, h0, h1, h2, h3, h4, cond_true, cond_false]
           exact ⟨_, ((((Turn.moveC 0 0 1 6 rfl rfl rfl (by simp [hset, oM, oV])).trans (Turn.moveC 0 1 2 7 rfl rfl rfl (by simp [hset, oM, oV]))).trans (Turn.moveC 0 2 3 8 rfl rfl rfl (by simp [hset, oM, oV]))).trans (Turn.moveC 0 3 4 9 rfl rfl rfl (by simp [hset, oM, oV]))).trans (Turn.fits (p := ⟨slots 167 [(4, .ptr 9 0)], (.cells 106 [.vec 5, .vec 6, .vec 7, .vec 8] :: .dead :: .dead :: .dead :: .dead :: oV b1 b2 b3 b4 [.cells 52 [.int .i64 0, .int .i64 0, .str (⟨#[]⟩ : ByteArray), .int .u64 0]])⟩) [0, 1, 2, 3, 4, 6, 7, 8, 9, 5] (by kernel_rfl) (by kernel_rfl) (by kernel_rfl) (by kernel_rfl)), trivial, .inl (by (try rw [hF]); kernel_rfl), by (try rw [hF]); kernel_rfl⟩
       · refine ⟨fun h4 => ?_, fun h4 => ?_⟩
         · refine ⟨(by (iterate 4 refine Z1 (by (try refine fun (_ : _ = _) => ?_); (try refine fun (_ : _ ∧ _) => ?_); (try have hq := rngs a1 b1 b2 b3 b4); (try simp only [decide_eq_true_eq, decide_eq_false_iff_not, Bool.not_eq_false'] at *); first | omega | (constructor <;> omega)) ?_); (iterate 2 refine Z1 (by assumption) ?_); refine Z1 (by (try refine fun (_ : _ = _) => ?_); (try refine fun (_ : _ ∧ _) => ?_); (try have hq := rngs a1 b1 b2 b3 b4); (try simp only [decide_eq_true_eq, decide_eq_false_iff_not, Bool.not_eq_false'] at *); first | omega | (constructor <;> omega)) ?_; exact Z7), ?_⟩
           have hF : Z12 a1 b1 b2 b3 b4 = (((Z18 (Z3 a1.target b1 b2 b3 b4) a1 b1 b2 b3 b4).1), (Z18 (Z3 a1.target b1 b2 b3 b4) a1 b1 b2 b3 b4).2.1, (Z18 (Z3 a1.target b1 b2 b3 b4) a1 b1 b2 b3 b4).2.2, b3, b4) := by first | exact (Z4 h0 (Z4 h1 (Z4 h2 (Z4 h3 (Zd h4 rfl))))) | simp only [Z12, h0, h1, h2, h3, h4, cond_true, cond_false]
           exact ⟨_, ((((Turn.moveC 0 0 1 6 rfl rfl rfl (by simp [hset, oM, oV])).trans (Turn.moveC 0 1 2 7 rfl rfl rfl (by simp [hset, oM, oV]))).trans (Turn.moveC 0 2 3 8 rfl rfl rfl (by simp [hset, oM, oV]))).trans (Turn.moveC 0 3 4 9 rfl rfl rfl (by simp [hset, oM, oV]))).trans (Turn.fits (p := ⟨slots 167 [(4, .ptr 9 0)], (.cells 106 [.vec 5, .vec 6, .vec 7, .vec 8] :: .dead :: .dead :: .dead :: .dead :: oV ((Z18 (Z3 a1.target b1 b2 b3 b4) a1 b1 b2 b3 b4).2.1) ((Z18 (Z3 a1.target b1 b2 b3 b4) a1 b1 b2 b3 b4).2.2) b3 b4 [.cells 52 [.int .i64 (((Z18 (Z3 a1.target b1 b2 b3 b4) a1 b1 b2 b3 b4).1).err), .int .i64 (((Z18 (Z3 a1.target b1 b2 b3 b4) a1 b1 b2 b3 b4).1).size), .str (((Z18 (Z3 a1.target b1 b2 b3 b4) a1 b1 b2 b3 b4).1).zone), .int .u64 (((Z18 (Z3 a1.target b1 b2 b3 b4) a1 b1 b2 b3 b4).1).tag)]])⟩) [0, 1, 2, 3, 4, 6, 7, 8, 9, 5] (by kernel_rfl) (by kernel_rfl) (by kernel_rfl) (by kernel_rfl)), trivial, .inl (by (try rw [hF]); kernel_rfl), by (try rw [hF]); kernel_rfl⟩
         · refine ⟨fun h5 => ?_, fun h5 => ?_⟩
           · refine ⟨(by (iterate 4 refine Z1 (by (try refine fun (_ : _ = _) => ?_); (try refine fun (_ : _ ∧ _) => ?_); (try have hq := rngs a1 b1 b2 b3 b4); (try simp only [decide_eq_true_eq, decide_eq_false_iff_not, Bool.not_eq_false'] at *); first | omega | (constructor <;> omega)) ?_); (iterate 2 refine Z1 (by assumption) ?_); exact Z7), ?_⟩
             have hF : Z12 a1 b1 b2 b3 b4 = (((Z24 a1 b1 b2 b3 b4).1), (Z24 a1 b1 b2 b3 b4).2.1, (Z24 a1 b1 b2 b3 b4).2.2.1, (Z24 a1 b1 b2 b3 b4).2.2.2.1, (Z24 a1 b1 b2 b3 b4).2.2.2.2) := by first | exact (Z4 h0 (Z4 h1 (Z4 h2 (Z4 h3 (Z4 h4 (Zd h5 rfl)))))) | simp only [Z12, h0, h1, h2, h3, h4, h5, cond_true, cond_false]
             exact ⟨_, ((((Turn.moveC 0 0 6 10 rfl rfl rfl (by simp [hset, oM, oV])).trans (Turn.moveC 0 1 7 11 rfl rfl rfl (by simp [hset, oM, oV]))).trans (Turn.moveC 0 2 8 12 rfl rfl rfl (by simp [hset, oM, oV]))).trans (Turn.moveC 0 3 9 13 rfl rfl rfl (by simp [hset, oM, oV]))).trans (Turn.fits (p := ⟨slots 167 [(4, .ptr 9 0)], (.cells 106 [.vec 5, .vec 6, .vec 7, .vec 8] :: .dead :: .dead :: .dead :: .dead :: oV ((Z24 a1 b1 b2 b3 b4).2.1) ((Z24 a1 b1 b2 b3 b4).2.2.1) ((Z24 a1 b1 b2 b3 b4).2.2.2.1) ((Z24 a1 b1 b2 b3 b4).2.2.2.2) [.cells 52 [.int .i64 (((Z24 a1 b1 b2 b3 b4).1).err), .int .i64 (((Z24 a1 b1 b2 b3 b4).1).size), .str (((Z24 a1 b1 b2 b3 b4).1).zone), .int .u64 (((Z24 a1 b1 b2 b3 b4).1).tag)]])⟩) [0, 1, 2, 3, 4, 10, 11, 12, 13, 5] (by kernel_rfl) (by kernel_rfl) (by kernel_rfl) (by kernel_rfl)), trivial, .inl (by (try rw [hF]); kernel_rfl), by (try rw [hF]); kernel_rfl⟩
           · refine ⟨(by (iterate 4 refine Z1 (by (try refine fun (_ : _ = _) => ?_); (try refine fun (_ : _ ∧ _) => ?_); (try have hq := rngs a1 b1 b2 b3 b4); (try simp only [decide_eq_true_eq, decide_eq_false_iff_not, Bool.not_eq_false'] at *); first | omega | (constructor <;> omega)) ?_); exact Z7), ?_⟩
             refine ⟨fun h6 => ?_, fun h6 => ?_⟩
             · refine ⟨(by refine Z1 (by (try refine fun (_ : _ = _) => ?_); (try refine fun (_ : _ ∧ _) => ?_); (try have hq := rngs a1 b1 b2 b3 b4); (try simp only [decide_eq_true_eq, decide_eq_false_iff_not, Bool.not_eq_false'] at *); first | omega | (constructor <;> omega)) ?_; refine Z1 (by (try refine fun (_ : _ = _) => ?_); (try refine fun (_ : _ ∧ _) => ?_); (try have hq := rngs a1 b1 b2 b3 b4); (try simp only [decide_eq_true_eq, decide_eq_false_iff_not, Bool.not_eq_false'] at *); unfold bytesLim maxLen; (try simp only [List.length_append, List.length_cons, List.length_nil, List.length_drop, List.length_take]); omega) ?_; (iterate 2 refine Z1 (by (try refine fun (_ : _ = _) => ?_); (try refine fun (_ : _ ∧ _) => ?_); (try have hq := rngs a1 b1 b2 b3 b4); (try simp only [decide_eq_true_eq, decide_eq_false_iff_not, Bool.not_eq_false'] at *); (try rw [wrap1 (x := Z3 a1.target b1 b2 b3 b4) (by omega) (by omega)]); (try rw [wrap1 (x := Z1a a1.target b1 b2 b3 b4) (by omega) (by omega)]); (try unfold bytesLim); (try unfold maxLen); (try simp only [List.length_append, List.length_cons, List.length_nil, List.length_drop, List.length_take]); omega) ?_); exact Z7), ?_⟩
               have hF : Z12 a1 b1 b2 b3 b4 = ((default : XRes), b1, b2, (([] ++ ((b3.take ((Z1a a1.target b1 b2 b3 b4).toNat)).drop 0)) ++ ((b3.take ((b3.length : Int).toNat)).drop ((IntKind.i64.wrap ((Z1a a1.target b1 b2 b3 b4) + (1 : Int))).toNat))), b4) := by first | exact (Z4 h0 (Z4 h1 (Z4 h2 (Z4 h3 (Z4 h4 (Z4 h5 (Zd h6 rfl))))))) | simp only [Z12, h0, h1, h2, h3, h4, h5, h6, cond_true, cond_false]
               exact ⟨_, ((((Turn.moveC 0 0 1 7 rfl rfl rfl (by simp [hset, oM, oV])).trans (Turn.moveC 0 1 2 8 rfl rfl rfl (by simp [hset, oM, oV]))).trans (Turn.moveC 0 2 6 9 rfl rfl rfl (by simp [hset, oM, oV]))).trans (Turn.moveC 0 3 4 10 rfl rfl rfl (by simp [hset, oM, oV]))).trans (Turn.fits (p := ⟨slots 167 [(4, .ptr 9 0)], (.cells 106 [.vec 5, .vec 6, .vec 7, .vec 8] :: .dead :: .dead :: .dead :: .dead :: oV b1 b2 (([] ++ ((b3.take ((Z1a a1.target b1 b2 b3 b4).toNat)).drop 0)) ++ ((b3.take ((b3.length : Int).toNat)).drop ((IntKind.i64.wrap ((Z1a a1.target b1 b2 b3 b4) + (1 : Int))).toNat))) b4 [.cells 52 [.int .i64 0, .int .i64 0, .str (⟨#[]⟩ : ByteArray), .int .u64 0]])⟩) [0, 1, 2, 3, 4, 7, 8, 9, 10, 5] (by kernel_rfl) (by kernel_rfl) (by kernel_rfl) (by kernel_rfl)), trivial, .inl (by (try rw [hF]); kernel_rfl), by (try rw [hF]); kernel_rfl⟩
             · have hF : Z12 a1 b1 b2 b3 b4 = ((default : XRes), b1, b2, b3, b4) := by first | exact (Z4 h0 (Z4 h1 (Z4 h2 (Z4 h3 (Z4 h4 (Z4 h5 (Z4 h6 rfl))))))) | simp only [Z12, h0, h1, h2, h3, h4, h5, h6, cond_true, cond_false]
               exact ⟨_, ((((Turn.moveC 0 0 1 6 rfl rfl rfl (by simp [hset, oM, oV])).trans (Turn.moveC 0 1 2 7 rfl rfl rfl (by simp [hset, oM, oV]))).trans (Turn.moveC 0 2 3 8 rfl rfl rfl (by simp [hset, oM, oV]))).trans (Turn.moveC 0 3 4 9 rfl rfl rfl (by simp [hset, oM, oV]))).trans (Turn.fits (p := ⟨slots 167 [(4, .ptr 9 0)], (.cells 106 [.vec 5, .vec 6, .vec 7, .vec 8] :: .dead :: .dead :: .dead :: .dead :: oV b1 b2 b3 b4 [.cells 52 [.int .i64 0, .int .i64 0, .str (⟨#[]⟩ : ByteArray), .int .u64 0]])⟩) [0, 1, 2, 3, 4, 6, 7, 8, 9, 5] (by kernel_rfl) (by kernel_rfl) (by kernel_rfl) (by kernel_rfl)), trivial, .inl (by (try rw [hF]); kernel_rfl), by (try rw [hF]); kernel_rfl⟩
noncomputable def rD_do_fact : Fact Try.prog := factOf 97 Try.f97 (by kernel_rfl) rfl (by kernel_rfl) [.c (.ptr 0 0), .st .call] [.cells 106 [.vec 1, .vec 2, .vec 3, .vec 4], .vec false .zone, .vec false .vol, .vec false .snap, .vec false .done] false (fun t u => .agg [.int .i64 (((Z12 t.2.1 u.2.1 u.2.2.1 u.2.2.2.1 u.2.2.2.2.1).1).err), .int .i64 (((Z12 t.2.1 u.2.1 u.2.2.1 u.2.2.2.1 u.2.2.2.2.1).1).size), .str (((Z12 t.2.1 u.2.1 u.2.2.1 u.2.2.2.1 u.2.2.2.2.1).1).zone), .int .u64 (((Z12 t.2.1 u.2.1 u.2.2.1 u.2.2.2.1 u.2.2.2.2.1).1).tag)]) (fun t u => (.cells 106 [.vec 5, .vec 6, .vec 7, .vec 8] :: .dead :: .dead :: .dead :: .dead :: oV ((Z12 t.2.1 u.2.1 u.2.2.1 u.2.2.2.1 u.2.2.2.2.1).2.1) ((Z12 t.2.1 u.2.1 u.2.2.1 u.2.2.2.1 u.2.2.2.2.1).2.2.1) ((Z12 t.2.1 u.2.1 u.2.2.1 u.2.2.2.1 u.2.2.2.2.1).2.2.2.1) ((Z12 t.2.1 u.2.1 u.2.2.1 u.2.2.2.1 u.2.2.2.2.1).2.2.2.2) [])) (fun t u => [u.2.1.length ≤ 1000, u.2.2.1.length ≤ 1000, u.2.2.2.1.length ≤ 1000, u.2.2.2.2.1.length ≤ 1000, ∀ v ∈ u.2.2.1, v.nodes.length ≤ 1000, ∀ v ∈ u.2.2.1, ZHas u.2.1 v.zone])
 (nofun) (fun t u => by kernel_rfl) (fun t u => by kernel_rfl) (fun t u h => rD_doF_tr t.2.1 u.2.1 u.2.2.1 u.2.2.2.1 u.2.2.2.2.1 (h _ List.mem_cons_self) (h _ (List.mem_cons_of_mem _ List.mem_cons_self)) (h _ (List.mem_cons_of_mem _ (List.mem_cons_of_mem _ List.mem_cons_self))) (h _ (List.mem_cons_of_mem _ (List.mem_cons_of_mem _ (List.mem_cons_of_mem _ List.mem_cons_self)))) (h _ (List.mem_cons_of_mem _ (List.mem_cons_of_mem _ (List.mem_cons_of_mem _ (List.mem_cons_of_mem _ List.mem_cons_self))))) (h _ (List.mem_cons_of_mem _ (List.mem_cons_of_mem _ (List.mem_cons_of_mem _ (List.mem_cons_of_mem _ (List.mem_cons_of_mem _ List.mem_cons_self)))))))
end Go.Proofs.Ytpffbkbadnhmmaa
