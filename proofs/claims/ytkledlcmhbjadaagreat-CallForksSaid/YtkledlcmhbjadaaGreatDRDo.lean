/- The document's driver: calls. -/
import Derived.Test.YtkledlcmhbjadaaGreatDH2
set_option linter.unusedVariables false
set_option linter.unusedSimpArgs false
set_option maxRecDepth 100000
namespace Go.Proofs.YtkledlcmhbjadaaGreat
open Go Go.Eng
noncomputable def E_rD_Do : Env := Z65 (P := Tryz.prog) [Z1ac, rD_last_fact, rD_do_fact] [] [] ckf true
def Z6a (a1 : XCall) (b1 : LZ) (b2 : LV) (b3 : LS) (b4 : LQ) : LQ → Nat → LQ → LQ
 | [], i, v5 => v5
 | o :: r, i, v5 => cond (!((i : Int) == (Z1c a1.verb a1.target b1 b2 b3 b4)))
  (Z6a a1 b1 b2 b3 b4 r (i + 1) (v5 ++ [o]))
  (Z6a a1 b1 b2 b3 b4 r (i + 1) v5)
def Z1bd (a1 : XCall) (b1 : LZ) (b2 : LV) (b3 : LS) (b4 : LQ) (i : Nat) (v5 : LQ) : St :=
 ⟨Za 144 [(0, .ptr 0 0), (3, .ptr 5 0), (4, .ptr 6 0), (5, .int .i64 (Z1c a1.verb a1.target b1 b2 b3 b4)), (6, .ptr 7 0), (7, .vec 8), (8, .int .i64 (i : Int))], (.cells 111 [.vec 9, .vec 10, .vec 11, .vec 12] :: .dead :: .dead :: .dead :: .dead :: .cells 34 (cc a1) :: .cells 52 [.int .i64 0, .int .i64 0, .str (⟨#[]⟩ : BA), .int .u64 0] :: .cells 52 [.int .i64 (((Z17 a1 b1 b2 b3 b4).1).err), .int .i64 (((Z17 a1 b1 b2 b3 b4).1).size), .str (((Z17 a1 b1 b2 b3 b4).1).zone), .int .u64 (((Z17 a1 b1 b2 b3 b4).1).tag)] :: .vec false ⟨.done, v5⟩ :: oV ((Z17 a1 b1 b2 b3 b4).2.1) ((Z17 a1 b1 b2 b3 b4).2.2.1) ((Z17 a1 b1 b2 b3 b4).2.2.2.1) ((Z17 a1 b1 b2 b3 b4).2.2.2.2) [])⟩
def rD_DoLR (a1 : XCall) (b1 : LZ) (b2 : LV) (b3 : LS) (b4 : LQ) (i : Nat) (v5 : LQ) : RT :=
 (.ask (decide ((i : Int) < (((Z17 a1 b1 b2 b3 b4).2.2.2.2).length : Int)))
   (.ask (!((i : Int) == (Z1c a1.verb a1.target b1 b2 b3 b4)))
     (.need [0 ≤ (i : Int) ∧ (i : Int) < (((Z17 a1 b1 b2 b3 b4).2.2.2.2).length : Int)]
       (.need [(v5.length + [(((Z17 a1 b1 b2 b3 b4).2.2.2.2).getD i default)].length) * 128 ≤ Z18 ∧ v5.length + [(((Z17 a1 b1 b2 b3 b4).2.2.2.2).getD i default)].length ≤ maxLen]
         (.leaf .normal ⟨Za 144 [(0, .ptr 0 0), (3, .ptr 5 0), (4, .ptr 6 0), (5, .int .i64 (Z1c a1.verb a1.target b1 b2 b3 b4)), (6, .ptr 7 0), (7, .vec 8), (8, .int .i64 (IntKind.i64.wrap ((i : Int) + (1 : Int))))], (.cells 111 [.vec 9, .vec 10, .vec 11, .vec 12] :: .dead :: .dead :: .dead :: .dead :: .cells 34 (cc a1) :: .cells 52 [.int .i64 0, .int .i64 0, .str (⟨#[]⟩ : BA), .int .u64 0] :: .cells 52 [.int .i64 (((Z17 a1 b1 b2 b3 b4).1).err), .int .i64 (((Z17 a1 b1 b2 b3 b4).1).size), .str (((Z17 a1 b1 b2 b3 b4).1).zone), .int .u64 (((Z17 a1 b1 b2 b3 b4).1).tag)] :: .vec false ⟨.done, (v5 ++ [(((Z17 a1 b1 b2 b3 b4).2.2.2.2).getD i default)])⟩ :: oV ((Z17 a1 b1 b2 b3 b4).2.1) ((Z17 a1 b1 b2 b3 b4).2.2.1) ((Z17 a1 b1 b2 b3 b4).2.2.2.1) ((Z17 a1 b1 b2 b3 b4).2.2.2.2) [])⟩ [0, 1, 2, 3, 4, 5, 6, 7, 14, 9, 10, 11, 12])))
     (.leaf .normal ⟨Za 144 [(0, .ptr 0 0), (3, .ptr 5 0), (4, .ptr 6 0), (5, .int .i64 (Z1c a1.verb a1.target b1 b2 b3 b4)), (6, .ptr 7 0), (7, .vec 8), (8, .int .i64 (IntKind.i64.wrap ((i : Int) + (1 : Int))))], (.cells 111 [.vec 9, .vec 10, .vec 11, .vec 12] :: .dead :: .dead :: .dead :: .dead :: .cells 34 (cc a1) :: .cells 52 [.int .i64 0, .int .i64 0, .str (⟨#[]⟩ : BA), .int .u64 0] :: .cells 52 [.int .i64 (((Z17 a1 b1 b2 b3 b4).1).err), .int .i64 (((Z17 a1 b1 b2 b3 b4).1).size), .str (((Z17 a1 b1 b2 b3 b4).1).zone), .int .u64 (((Z17 a1 b1 b2 b3 b4).1).tag)] :: .vec false ⟨.done, v5⟩ :: oV ((Z17 a1 b1 b2 b3 b4).2.1) ((Z17 a1 b1 b2 b3 b4).2.2.1) ((Z17 a1 b1 b2 b3 b4).2.2.2.1) ((Z17 a1 b1 b2 b3 b4).2.2.2.2) [])⟩ []))
   (.leaf (.exit 2) ⟨Za 144 [(0, .ptr 0 0), (3, .ptr 5 0), (4, .ptr 6 0), (6, .ptr 7 0), (7, .vec 8)], (.cells 111 [.vec 9, .vec 10, .vec 11, .vec 12] :: .dead :: .dead :: .dead :: .dead :: .cells 34 (cc a1) :: .cells 52 [.int .i64 0, .int .i64 0, .str (⟨#[]⟩ : BA), .int .u64 0] :: .cells 52 [.int .i64 (((Z17 a1 b1 b2 b3 b4).1).err), .int .i64 (((Z17 a1 b1 b2 b3 b4).1).size), .str (((Z17 a1 b1 b2 b3 b4).1).zone), .int .u64 (((Z17 a1 b1 b2 b3 b4).1).tag)] :: .vec false ⟨.done, v5⟩ :: oV ((Z17 a1 b1 b2 b3 b4).2.1) ((Z17 a1 b1 b2 b3 b4).2.2.1) ((Z17 a1 b1 b2 b3 b4).2.2.2.1) ((Z17 a1 b1 b2 b3 b4).2.2.2.2) [])⟩ []))
def Z137 (a1 : XCall) (b1 : LZ) (b2 : LV) (b3 : LS) (b4 : LQ) (i : Nat) (v5 : LQ) : Tree :=
 .leaf (.exit 2) ⟨Za 144 [(0, .ptr 0 0), (3, .ptr 5 0), (4, .ptr 6 0), (6, .ptr 7 0), (7, .vec 8)], (.cells 111 [.vec 9, .vec 10, .vec 11, .vec 12] :: .dead :: .dead :: .dead :: .dead :: .cells 34 (cc a1) :: .cells 52 [.int .i64 0, .int .i64 0, .str (⟨#[]⟩ : BA), .int .u64 0] :: .cells 52 [.int .i64 (((Z17 a1 b1 b2 b3 b4).1).err), .int .i64 (((Z17 a1 b1 b2 b3 b4).1).size), .str (((Z17 a1 b1 b2 b3 b4).1).zone), .int .u64 (((Z17 a1 b1 b2 b3 b4).1).tag)] :: .vec false ⟨.done, Z6a a1 b1 b2 b3 b4 (((Z17 a1 b1 b2 b3 b4).2.2.2.2).drop i) i v5⟩ :: oV ((Z17 a1 b1 b2 b3 b4).2.1) ((Z17 a1 b1 b2 b3 b4).2.2.1) ((Z17 a1 b1 b2 b3 b4).2.2.2.1) ((Z17 a1 b1 b2 b3 b4).2.2.2.2) [])⟩
theorem rD_DoL_loop (a1 : XCall) (b1 : LZ) (b2 : LV) (b3 : LS) (b4 : LQ) (hp0 : b1.length ≤ 1000) (hp1 : b2.length ≤ 1000) (hp2 : b3.length ≤ 1000) (hp3 : b4.length ≤ 1000) (hp4 : ∀ v ∈ b2, v.nodes.length ≤ 1000) (hp5 : ∀ v ∈ b2, ZHas b1 v.zone) (hp6 : CS a1) (hlen : ((Z17 a1 b1 b2 b3 b4).2.2.2.2).length < 4611686018427387904) (z : { z : Nat × LQ // z.1 ≤ ((Z17 a1 b1 b2 b3 b4).2.2.2.2).length ∧ z.2.length ≤ z.1 }) (Q : Exit → St → Prop) (h : (Z137 a1 b1 b2 b3 b4 z.1.1 z.1.2).All Q) : Tr Tryz.prog 5 (.loop (Z47 Tryz.f55 0)) (Z1bd a1 b1 b2 b3 b4 z.1.1 z.1.2) Q := by
 refine Z60 (kok _ _ _ _ _ _) (E := E_rD_Do) (ι := { z : Nat × LQ // z.1 ≤ ((Z17 a1 b1 b2 b3 b4).2.2.2.2).length ∧ z.2.length ≤ z.1 }) 60 2 (fun _ => Z32) (fun z => Z1bd a1 b1 b2 b3 b4 z.1.1 z.1.2) (fun z => Z137 a1 b1 b2 b3 b4 z.1.1 z.1.2) (fun z => rD_DoLR a1 b1 b2 b3 b4 z.1.1 z.1.2) (fun z => ((Z17 a1 b1 b2 b3 b4).2.2.2.2).length - z.1.1) (fun _ => Z14.none) (fun z => by obtain ⟨⟨i, v5⟩, hi⟩ := z; kernel_rfl) (fun z => by obtain ⟨⟨i, v5⟩, hi⟩ := z; kernel_rfl) (fun z => by obtain ⟨⟨i, v5⟩, hi⟩ := z; kernel_rfl) ?_ z Q h
 rintro ⟨⟨i, v5⟩, hi⟩ Q hT
 replace hT : (Z137 a1 b1 b2 b3 b4 i v5).All Q := hT
 replace hi : i ≤ ((Z17 a1 b1 b2 b3 b4).2.2.2.2).length ∧ v5.length ≤ i := hi
 show (rD_DoLR a1 b1 b2 b3 b4 i v5).All _
 unfold rD_DoLR
 refine ⟨fun h0 => ?_, fun h0 => ?_⟩
 · have hlt : i < ((Z17 a1 b1 b2 b3 b4).2.2.2.2).length := by simpa using h0
   have hd := Z64 hlt
   have hw := Z4e (i := i) (by omega)
   refine ⟨fun h1 => ?_, fun h1 => ?_⟩
   · refine ⟨Z2 (by (try refine fun (_ : _ = _) => ?_); have hd2 := congrArg List.length (Z228 a1 b1 b2 b3 b4); first | omega | (constructor <;> omega)) (Z9), ?_⟩
     refine ⟨Z2 (by (try refine fun (_ : _ = _) => ?_); have hd2 := congrArg List.length (Z228 a1 b1 b2 b3 b4); unfold Z18 maxLen; (try simp only [List.length_append, List.length_cons, List.length_nil]); omega) (Z9), ?_⟩
     have hF : Z6a a1 b1 b2 b3 b4 (((Z17 a1 b1 b2 b3 b4).2.2.2.2).drop i) i v5 = Z6a a1 b1 b2 b3 b4 (((Z17 a1 b1 b2 b3 b4).2.2.2.2).drop (i + 1)) (i + 1) (v5 ++ [(((Z17 a1 b1 b2 b3 b4).2.2.2.2).getD i default)]) := by rw [hd]; first | exact (Z12 h1 rfl) | simp only [Z6a, h0, h1, cond_true, cond_false]
     refine ⟨⟨((i + 1), (v5 ++ [(((Z17 a1 b1 b2 b3 b4).2.2.2.2).getD i default)])), by (first | dsimp only | skip); constructor <;> (try simp only [List.length_append, List.length_cons, List.length_nil]) <;> omega⟩, by show ((Z17 a1 b1 b2 b3 b4).2.2.2.2).length - (i + 1) < ((Z17 a1 b1 b2 b3 b4).2.2.2.2).length - i; omega, ?_, ?_⟩
     · show _ = Z1bd a1 b1 b2 b3 b4 (i + 1) (v5 ++ [(((Z17 a1 b1 b2 b3 b4).2.2.2.2).getD i default)])
       unfold Z1bd
       simp only [hw]
     · show (Z137 a1 b1 b2 b3 b4 (i + 1) (v5 ++ [(((Z17 a1 b1 b2 b3 b4).2.2.2.2).getD i default)])).All Q
       unfold Z137 at hT ⊢
       rw [hF] at hT
       exact hT
   · have hF : Z6a a1 b1 b2 b3 b4 (((Z17 a1 b1 b2 b3 b4).2.2.2.2).drop i) i v5 = Z6a a1 b1 b2 b3 b4 (((Z17 a1 b1 b2 b3 b4).2.2.2.2).drop (i + 1)) (i + 1) v5 := by rw [hd]; first | exact (Z3 h1 rfl) | simp only [Z6a, h0, h1, cond_true, cond_false]
     refine ⟨⟨((i + 1), v5), by (first | dsimp only | skip); constructor <;> (try simp only [List.length_append, List.length_cons, List.length_nil]) <;> omega⟩, by show ((Z17 a1 b1 b2 b3 b4).2.2.2.2).length - (i + 1) < ((Z17 a1 b1 b2 b3 b4).2.2.2.2).length - i; omega, ?_, ?_⟩
     · show _ = Z1bd a1 b1 b2 b3 b4 (i + 1) v5
       unfold Z1bd
       simp only [hw]
     · show (Z137 a1 b1 b2 b3 b4 (i + 1) v5).All Q
       unfold Z137 at hT ⊢
       rw [hF] at hT
       exact hT
 · have hge : ¬ i < ((Z17 a1 b1 b2 b3 b4).2.2.2.2).length := by simpa using h0
   have hd : ((Z17 a1 b1 b2 b3 b4).2.2.2.2).drop i = [] := List.drop_eq_nil_of_le (by omega)
   have hF : Z6a a1 b1 b2 b3 b4 (((Z17 a1 b1 b2 b3 b4).2.2.2.2).drop i) i v5 = v5 := by rw [hd]; first | exact rfl | simp only [Z6a, h0, cond_true, cond_false]
   unfold Z137 at hT
   rw [hF] at hT
   exact hT
theorem rD_DoL_len (a1 : XCall) (b1 : LZ) (b2 : LV) (b3 : LS) (b4 : LQ) : ∀ (l : LQ) (i : Nat) (v : LQ), (Z6a a1 b1 b2 b3 b4 l i v).length ≤ v.length + l.length
 | [], i, v => by simp [Z6a]
 | o :: r, i, v => by
  unfold Z6a
  rw [List.length_cons]
  simp only [Bool.cond_eq_ite]
  split
  all_goals
   refine Nat.le_trans (rD_DoL_len a1 b1 b2 b3 b4 r _ _) ?_
   (try simp only [List.length_append, List.length_cons, List.length_nil])
   omega
def Z2c (a1 : XCall) (b1 : LZ) (b2 : LV) (b3 : LS) (b4 : LQ) : XRes × LZ × LV × LS × LQ :=
 cond (!(Z45 a1))
   ((⟨(2 : Int), (0 : Int), (⟨#[]⟩ : BA), (0 : Int)⟩ : XRes), b1, b2, b3, b4)
   (cond (cond (decide ((Z1c a1.verb a1.target b1 b2 b3 b4) ≥ (0 : Int))) (decide (a1.num < ((b4.getD ((Z1c a1.verb a1.target b1 b2 b3 b4).toNat) default).c.num))) false)
     ((⟨(9 : Int), (0 : Int), (⟨#[]⟩ : BA), (0 : Int)⟩ : XRes), b1, b2, b3, b4)
     (cond (cond (cond (decide ((Z1c a1.verb a1.target b1 b2 b3 b4) ≥ (0 : Int))) (a1.num == ((b4.getD ((Z1c a1.verb a1.target b1 b2 b3 b4).toNat) default).c.num)) false) ((a1.verb == ((b4.getD ((Z1c a1.verb a1.target b1 b2 b3 b4).toNat) default).c.verb)) && ((decide (a1.target = ((b4.getD ((Z1c a1.verb a1.target b1 b2 b3 b4).toNat) default).c.target))) && ((a1.num == ((b4.getD ((Z1c a1.verb a1.target b1 b2 b3 b4).toNat) default).c.num)) && ((a1.size == ((b4.getD ((Z1c a1.verb a1.target b1 b2 b3 b4).toNat) default).c.size)) && ((decide (a1.zone = ((b4.getD ((Z1c a1.verb a1.target b1 b2 b3 b4).toNat) default).c.zone))) && ((decide (a1.node = ((b4.getD ((Z1c a1.verb a1.target b1 b2 b3 b4).toNat) default).c.node))) && (decide (a1.source = ((b4.getD ((Z1c a1.verb a1.target b1 b2 b3 b4).toNat) default).c.source))))))))) false)
       ((⟨((b4.getD ((Z1c a1.verb a1.target b1 b2 b3 b4).toNat) default).r.err), ((b4.getD ((Z1c a1.verb a1.target b1 b2 b3 b4).toNat) default).r.size), (b4.getD ((Z1c a1.verb a1.target b1 b2 b3 b4).toNat) default).r.zone, ((b4.getD ((Z1c a1.verb a1.target b1 b2 b3 b4).toNat) default).r.tag)⟩ : XRes), b1, b2, b3, b4)
       (cond (cond (decide ((Z1c a1.verb a1.target b1 b2 b3 b4) ≥ (0 : Int))) (a1.num == ((b4.getD ((Z1c a1.verb a1.target b1 b2 b3 b4).toNat) default).c.num)) false)
         ((⟨(6 : Int), (0 : Int), (⟨#[]⟩ : BA), (0 : Int)⟩ : XRes), b1, b2, b3, b4)
         (cond (cond (decide ((Z1c a1.verb a1.target b1 b2 b3 b4) < (0 : Int))) (decide ((b4.length : Int) ≥ (256 : Int))) false)
           ((⟨(7 : Int), (0 : Int), (⟨#[]⟩ : BA), (0 : Int)⟩ : XRes), b1, b2, b3, b4)
           (((Z17 a1 b1 b2 b3 b4).1), (Z17 a1 b1 b2 b3 b4).2.1, (Z17 a1 b1 b2 b3 b4).2.2.1, (Z17 a1 b1 b2 b3 b4).2.2.2.1, ((Z6a a1 b1 b2 b3 b4 ((Z17 a1 b1 b2 b3 b4).2.2.2.2) 0 []) ++ [(⟨a1, ((Z17 a1 b1 b2 b3 b4).1)⟩ : XDone)]))))))
def rD_DoR (a1 : XCall) (b1 : LZ) (b2 : LV) (b3 : LS) (b4 : LQ) : RT :=
 (.ask false
   .fail
   (.need [CS a1]
     (.ask (!(Z45 a1))
       (.leaf .ret ⟨Za 144 [(4, .ptr 5 0)], (.cells 111 [.vec 1, .vec 2, .vec 3, .vec 4] :: oV b1 b2 b3 b4 [.cells 52 [.int .i64 2, .int .i64 0, .str (⟨#[]⟩ : BA), .int .u64 0]])⟩ [0, 1, 2, 3, 4, 6])
       (.need [b1.length ≤ 1000, b2.length ≤ 1000, b3.length ≤ 1000, b4.length ≤ 1000]
         (.need [((decide ((Z1c a1.verb a1.target b1 b2 b3 b4) ≥ (0 : Int))) = true) → (0 ≤ (Z1c a1.verb a1.target b1 b2 b3 b4) ∧ (Z1c a1.verb a1.target b1 b2 b3 b4) < (b4.length : Int))]
           (.ask (cond (decide ((Z1c a1.verb a1.target b1 b2 b3 b4) ≥ (0 : Int))) (decide (a1.num < ((b4.getD ((Z1c a1.verb a1.target b1 b2 b3 b4).toNat) default).c.num))) false)
             (.leaf .ret ⟨Za 144 [(4, .ptr 5 0)], (.cells 111 [.vec 1, .vec 2, .vec 3, .vec 4] :: oV b1 b2 b3 b4 [.cells 52 [.int .i64 9, .int .i64 0, .str (⟨#[]⟩ : BA), .int .u64 0]])⟩ [0, 1, 2, 3, 4, 6])
             (.need [((decide ((Z1c a1.verb a1.target b1 b2 b3 b4) ≥ (0 : Int))) = true) → (0 ≤ (Z1c a1.verb a1.target b1 b2 b3 b4) ∧ (Z1c a1.verb a1.target b1 b2 b3 b4) < (b4.length : Int)), ((cond (decide ((Z1c a1.verb a1.target b1 b2 b3 b4) ≥ (0 : Int))) (a1.num == ((b4.getD ((Z1c a1.verb a1.target b1 b2 b3 b4).toNat) default).c.num)) false) = true) → (0 ≤ (Z1c a1.verb a1.target b1 b2 b3 b4) ∧ (Z1c a1.verb a1.target b1 b2 b3 b4) < (b4.length : Int))]
               (.ask (cond (cond (decide ((Z1c a1.verb a1.target b1 b2 b3 b4) ≥ (0 : Int))) (a1.num == ((b4.getD ((Z1c a1.verb a1.target b1 b2 b3 b4).toNat) default).c.num)) false) ((a1.verb == ((b4.getD ((Z1c a1.verb a1.target b1 b2 b3 b4).toNat) default).c.verb)) && ((decide (a1.target = ((b4.getD ((Z1c a1.verb a1.target b1 b2 b3 b4).toNat) default).c.target))) && ((a1.num == ((b4.getD ((Z1c a1.verb a1.target b1 b2 b3 b4).toNat) default).c.num)) && ((a1.size == ((b4.getD ((Z1c a1.verb a1.target b1 b2 b3 b4).toNat) default).c.size)) && ((decide (a1.zone = ((b4.getD ((Z1c a1.verb a1.target b1 b2 b3 b4).toNat) default).c.zone))) && ((decide (a1.node = ((b4.getD ((Z1c a1.verb a1.target b1 b2 b3 b4).toNat) default).c.node))) && (decide (a1.source = ((b4.getD ((Z1c a1.verb a1.target b1 b2 b3 b4).toNat) default).c.source))))))))) false)
                 (.need [0 ≤ (Z1c a1.verb a1.target b1 b2 b3 b4) ∧ (Z1c a1.verb a1.target b1 b2 b3 b4) < (b4.length : Int)]
                   (.leaf .ret ⟨Za 144 [(4, .ptr 5 0)], (.cells 111 [.vec 1, .vec 2, .vec 3, .vec 4] :: oV b1 b2 b3 b4 [.cells 52 [.int .i64 ((b4.getD ((Z1c a1.verb a1.target b1 b2 b3 b4).toNat) default).r.err), .int .i64 ((b4.getD ((Z1c a1.verb a1.target b1 b2 b3 b4).toNat) default).r.size), .str ((b4.getD ((Z1c a1.verb a1.target b1 b2 b3 b4).toNat) default).r.zone), .int .u64 ((b4.getD ((Z1c a1.verb a1.target b1 b2 b3 b4).toNat) default).r.tag)]])⟩ [0, 1, 2, 3, 4, 6]))
                 (.need [((decide ((Z1c a1.verb a1.target b1 b2 b3 b4) ≥ (0 : Int))) = true) → (0 ≤ (Z1c a1.verb a1.target b1 b2 b3 b4) ∧ (Z1c a1.verb a1.target b1 b2 b3 b4) < (b4.length : Int))]
                   (.ask (cond (decide ((Z1c a1.verb a1.target b1 b2 b3 b4) ≥ (0 : Int))) (a1.num == ((b4.getD ((Z1c a1.verb a1.target b1 b2 b3 b4).toNat) default).c.num)) false)
                     (.leaf .ret ⟨Za 144 [(4, .ptr 5 0)], (.cells 111 [.vec 1, .vec 2, .vec 3, .vec 4] :: oV b1 b2 b3 b4 [.cells 52 [.int .i64 6, .int .i64 0, .str (⟨#[]⟩ : BA), .int .u64 0]])⟩ [0, 1, 2, 3, 4, 6])
                     (.ask (cond (decide ((Z1c a1.verb a1.target b1 b2 b3 b4) < (0 : Int))) (decide ((b4.length : Int) ≥ (256 : Int))) false)
                       (.leaf .ret ⟨Za 144 [(4, .ptr 5 0)], (.cells 111 [.vec 1, .vec 2, .vec 3, .vec 4] :: oV b1 b2 b3 b4 [.cells 52 [.int .i64 7, .int .i64 0, .str (⟨#[]⟩ : BA), .int .u64 0]])⟩ [0, 1, 2, 3, 4, 6])
                       (.need [b1.length ≤ 1000, b2.length ≤ 1000, b3.length ≤ 1000, b4.length ≤ 1000, ∀ v ∈ b2, v.nodes.length ≤ 1000, ∀ v ∈ b2, ZHas b1 v.zone]
                         (.need [((Z6a a1 b1 b2 b3 b4 ((Z17 a1 b1 b2 b3 b4).2.2.2.2) 0 []).length + [(⟨a1, ((Z17 a1 b1 b2 b3 b4).1)⟩ : XDone)].length) * 128 ≤ Z18 ∧ (Z6a a1 b1 b2 b3 b4 ((Z17 a1 b1 b2 b3 b4).2.2.2.2) 0 []).length + [(⟨a1, ((Z17 a1 b1 b2 b3 b4).1)⟩ : XDone)].length ≤ maxLen]
                           (.leaf .ret ⟨Za 144 [(4, .ptr 5 0)], (.cells 111 [.vec 6, .vec 7, .vec 8, .vec 9] :: .dead :: .dead :: .dead :: .dead :: .cells 52 [.int .i64 (((Z17 a1 b1 b2 b3 b4).1).err), .int .i64 (((Z17 a1 b1 b2 b3 b4).1).size), .str (((Z17 a1 b1 b2 b3 b4).1).zone), .int .u64 (((Z17 a1 b1 b2 b3 b4).1).tag)] :: oV ((Z17 a1 b1 b2 b3 b4).2.1) ((Z17 a1 b1 b2 b3 b4).2.2.1) ((Z17 a1 b1 b2 b3 b4).2.2.2.1) ((Z6a a1 b1 b2 b3 b4 ((Z17 a1 b1 b2 b3 b4).2.2.2.2) 0 []) ++ [(⟨a1, ((Z17 a1 b1 b2 b3 b4).1)⟩ : XDone)]) [])⟩ [0, 1, 2, 3, 4, 6, 9, 10, 11, 14]))))))))))))))
theorem rD_DoF_tr (a1 : XCall) (b1 : LZ) (b2 : LV) (b3 : LS) (b4 : LQ) (hp0 : b1.length ≤ 1000) (hp1 : b2.length ≤ 1000) (hp2 : b3.length ≤ 1000) (hp3 : b4.length ≤ 1000) (hp4 : ∀ v ∈ b2, v.nodes.length ≤ 1000) (hp5 : ∀ v ∈ b2, ZHas b1 v.zone) (hp6 : CS a1) : Tr Tryz.prog 5 (Z3c Tryz.f55) (Z27 Tryz.f55 [.ptr 0 0, .agg (cc a1)] (.cells 111 [.vec 1, .vec 2, .vec 3, .vec 4] :: oV b1 b2 b3 b4 [])) (Z48 Tryz.prog Tryz.f55 (.agg [.int .i64 (((Z2c a1 b1 b2 b3 b4).1).err), .int .i64 (((Z2c a1 b1 b2 b3 b4).1).size), .str (((Z2c a1 b1 b2 b3 b4).1).zone), .int .u64 (((Z2c a1 b1 b2 b3 b4).1).tag)]) (.cells 111 [.vec 5, .vec 6, .vec 7, .vec 8] :: .dead :: .dead :: .dead :: .dead :: oV ((Z2c a1 b1 b2 b3 b4).2.1) ((Z2c a1 b1 b2 b3 b4).2.2.1) ((Z2c a1 b1 b2 b3 b4).2.2.2.1) ((Z2c a1 b1 b2 b3 b4).2.2.2.2) [])) := by
 refine Tr.post ?_
 refine Z2f (kok _ _ _ _ _ _) (E := E_rD_Do) (L := (Z5f [(2, Z1bd a1 b1 b2 b3 b4 0 [], [0, 1, 2, 3, 4, 5, 6, 11, 12, 7, 8, 9, 10], Z137 a1 b1 b2 b3 b4 0 [])])) 60 9999 (Z14.one (g := Z47 Tryz.f55 0) (b := 2) (by kernel_rfl) (by kernel_rfl) (by kernel_rfl) (by kernel_rfl) (fun Q h => rD_DoL_loop a1 b1 b2 b3 b4 hp0 hp1 hp2 hp3 hp4 hp5 hp6 (by (have hd2 := congrArg List.length (Z228 a1 b1 b2 b3 b4); omega)) ⟨(0, []), ⟨Nat.zero_le _, Nat.le_refl _⟩⟩ Q h)) (rD_DoR a1 b1 b2 b3 b4) (by kernel_rfl) (by kernel_rfl) (by kernel_rfl) ?_
 unfold rD_DoR
 refine ⟨fun h0 => ?_, fun h0 => ?_⟩
 · exact absurd h0 (by simp)
 · refine ⟨Z2 (by assumption) (Z9), ?_⟩
   refine ⟨fun h1 => ?_, fun h1 => ?_⟩
   · have hF : Z2c a1 b1 b2 b3 b4 = ((⟨(2 : Int), (0 : Int), (⟨#[]⟩ : BA), (0 : Int)⟩ : XRes), b1, b2, b3, b4) := by first | exact (Z12 h1 rfl) | simp only [Z2c, h0, h1, cond_true, cond_false]
     exact ⟨_, ((((Turn.moveC 0 0 1 6 rfl rfl rfl (by simp [hset, oM, oV])).trans (Turn.moveC 0 1 2 7 rfl rfl rfl (by simp [hset, oM, oV]))).trans (Turn.moveC 0 2 3 8 rfl rfl rfl (by simp [hset, oM, oV]))).trans (Turn.moveC 0 3 4 9 rfl rfl rfl (by simp [hset, oM, oV]))).trans (Turn.fits (p := ⟨Za 144 [(4, .ptr 9 0)], (.cells 111 [.vec 5, .vec 6, .vec 7, .vec 8] :: .dead :: .dead :: .dead :: .dead :: oV b1 b2 b3 b4 [.cells 52 [.int .i64 2, .int .i64 0, .str (⟨#[]⟩ : BA), .int .u64 0]])⟩) [0, 1, 2, 3, 4, 6, 7, 8, 9, 5] (by kernel_rfl) (by kernel_rfl) (by kernel_rfl) (by kernel_rfl)), trivial, .inl (by (try rw [hF]); kernel_rfl), by (try rw [hF]); kernel_rfl⟩
   · refine ⟨(by (iterate 4 refine Z2 (by (try refine fun (_ : _ = _) => ?_); first | omega | (constructor <;> omega)) ?_); exact Z9), ?_⟩
     refine ⟨Z2 (by (try refine fun (_ : _ = _) => ?_); (try have hq := rngs a1 b1 b2 b3 b4); (try simp only [decide_eq_true_eq, decide_eq_false_iff_not, Bool.not_eq_false', Bool.cond_false_right, Bool.and_eq_true] at *); first | omega | (constructor <;> omega)) (Z9), ?_⟩
     refine ⟨fun h2 => ?_, fun h2 => ?_⟩
     · have hF : Z2c a1 b1 b2 b3 b4 = ((⟨(9 : Int), (0 : Int), (⟨#[]⟩ : BA), (0 : Int)⟩ : XRes), b1, b2, b3, b4) := by first | exact (Z3 h1 (Z12 h2 rfl)) | simp only [Z2c, h0, h1, h2, cond_true, cond_false]
       exact ⟨_, ((((Turn.moveC 0 0 1 6 rfl rfl rfl (by simp [hset, oM, oV])).trans (Turn.moveC 0 1 2 7 rfl rfl rfl (by simp [hset, oM, oV]))).trans (Turn.moveC 0 2 3 8 rfl rfl rfl (by simp [hset, oM, oV]))).trans (Turn.moveC 0 3 4 9 rfl rfl rfl (by simp [hset, oM, oV]))).trans (Turn.fits (p := ⟨Za 144 [(4, .ptr 9 0)], (.cells 111 [.vec 5, .vec 6, .vec 7, .vec 8] :: .dead :: .dead :: .dead :: .dead :: oV b1 b2 b3 b4 [.cells 52 [.int .i64 9, .int .i64 0, .str (⟨#[]⟩ : BA), .int .u64 0]])⟩) [0, 1, 2, 3, 4, 6, 7, 8, 9, 5] (by kernel_rfl) (by kernel_rfl) (by kernel_rfl) (by kernel_rfl)), trivial, .inl (by (try rw [hF]); kernel_rfl), by (try rw [hF]); kernel_rfl⟩
     · refine ⟨(by (iterate 2 refine Z2 (by (try refine fun (_ : _ = _) => ?_); (try have hq := rngs a1 b1 b2 b3 b4); (try simp only [decide_eq_true_eq, decide_eq_false_iff_not, Bool.not_eq_false', Bool.cond_false_right, Bool.and_eq_true] at *); first | omega | (constructor <;> omega)) ?_); exact Z9), ?_⟩
       refine ⟨fun h3 => ?_, fun h3 => ?_⟩
       · refine ⟨Z2 (by (try refine fun (_ : _ = _) => ?_); (try have hq := rngs a1 b1 b2 b3 b4); (try simp only [decide_eq_true_eq, decide_eq_false_iff_not, Bool.not_eq_false', Bool.cond_false_right, Bool.and_eq_true] at *); first | omega | (constructor <;> omega)) (Z9), ?_⟩
         have hF : Z2c a1 b1 b2 b3 b4 = ((⟨((b4.getD ((Z1c a1.verb a1.target b1 b2 b3 b4).toNat) default).r.err), ((b4.getD ((Z1c a1.verb a1.target b1 b2 b3 b4).toNat) default).r.size), (b4.getD ((Z1c a1.verb a1.target b1 b2 b3 b4).toNat) default).r.zone, ((b4.getD ((Z1c a1.verb a1.target b1 b2 b3 b4).toNat) default).r.tag)⟩ : XRes), b1, b2, b3, b4) := by first | exact (Z3 h1 (Z3 h2 (Z12 h3 rfl))) | simp only [Z2c, h0, h1, h2, h3, cond_true, cond_false]
         exact ⟨_, ((((Turn.moveC 0 0 1 6 rfl rfl rfl (by simp [hset, oM, oV])).trans (Turn.moveC 0 1 2 7 rfl rfl rfl (by simp [hset, oM, oV]))).trans (Turn.moveC 0 2 3 8 rfl rfl rfl (by simp [hset, oM, oV]))).trans (Turn.moveC 0 3 4 9 rfl rfl rfl (by simp [hset, oM, oV]))).trans (Turn.fits (p := ⟨Za 144 [(4, .ptr 9 0)], (.cells 111 [.vec 5, .vec 6, .vec 7, .vec 8] :: .dead :: .dead :: .dead :: .dead :: oV b1 b2 b3 b4 [.cells 52 [.int .i64 ((b4.getD ((Z1c a1.verb a1.target b1 b2 b3 b4).toNat) default).r.err), .int .i64 ((b4.getD ((Z1c a1.verb a1.target b1 b2 b3 b4).toNat) default).r.size), .str ((b4.getD ((Z1c a1.verb a1.target b1 b2 b3 b4).toNat) default).r.zone), .int .u64 ((b4.getD ((Z1c a1.verb a1.target b1 b2 b3 b4).toNat) default).r.tag)]])⟩) [0, 1, 2, 3, 4, 6, 7, 8, 9, 5] (by kernel_rfl) (by kernel_rfl) (by kernel_rfl) (by kernel_rfl)), trivial, .inl (by (try rw [hF]); kernel_rfl), by (try rw [hF]); kernel_rfl⟩
       · refine ⟨Z2 (by (try refine fun (_ : _ = _) => ?_); (try have hq := rngs a1 b1 b2 b3 b4); (try simp only [decide_eq_true_eq, decide_eq_false_iff_not, Bool.not_eq_false', Bool.cond_false_right, Bool.and_eq_true] at *); first | omega | (constructor <;> omega)) (Z9), ?_⟩
         refine ⟨fun h4 => ?_, fun h4 => ?_⟩
         · have hF : Z2c a1 b1 b2 b3 b4 = ((⟨(6 : Int), (0 : Int), (⟨#[]⟩ : BA), (0 : Int)⟩ : XRes), b1, b2, b3, b4) := by first | exact (Z3 h1 (Z3 h2 (Z3 h3 (Z12 h4 rfl)))) | simp only [Z2c, h0, h1, h2, h3, h4, cond_true, cond_false]
           exact ⟨_, ((((Turn.moveC 0 0 1 6 rfl rfl rfl (by simp [hset, oM, oV])).trans (Turn.moveC 0 1 2 7 rfl rfl rfl (by simp [hset, oM, oV]))).trans (Turn.moveC 0 2 3 8 rfl rfl rfl (by simp [hset, oM, oV]))).trans (Turn.moveC 0 3 4 9 rfl rfl rfl (by simp [hset, oM, oV]))).trans (Turn.fits (p := ⟨Za 144 [(4, .ptr 9 0)], (.cells 111 [.vec 5, .vec 6, .vec 7, .vec 8] :: .dead :: .dead :: .dead :: .dead :: oV b1 b2 b3 b4 [.cells 52 [.int .i64 6, .int .i64 0, .str (⟨#[]⟩ : BA), .int .u64 0]])⟩) [0, 1, 2, 3, 4, 6, 7, 8, 9, 5] (by kernel_rfl) (by kernel_rfl) (by kernel_rfl) (by kernel_rfl)), trivial, .inl (by (try rw [hF]); kernel_rfl), by (try rw [hF]); kernel_rfl⟩
         · refine ⟨fun h5 => ?_, fun h5 => ?_⟩
           · have hF : Z2c a1 b1 b2 b3 b4 = ((⟨(7 : Int), (0 : Int), (⟨#[]⟩ : BA), (0 : Int)⟩ : XRes), b1, b2, b3, b4) := by first | exact (Z3 h1 (Z3 h2 (Z3 h3 (Z3 h4 (Z12 h5 rfl))))) | simp only [Z2c, h0, h1, h2, h3, h4, h5, cond_true, cond_false]
             exact ⟨_, ((((Turn.moveC 0 0 1 6 rfl rfl rfl (by simp [hset, oM, oV])).trans (Turn.moveC 0 1 2 7 rfl rfl rfl (by simp [hset, oM, oV]))).trans (Turn.moveC 0 2 3 8 rfl rfl rfl (by simp [hset, oM, oV]))).trans (Turn.moveC 0 3 4 9 rfl rfl rfl (by simp [hset, oM, oV]))).trans (Turn.fits (p := ⟨Za 144 [(4, .ptr 9 0)], (.cells 111 [.vec 5, .vec 6, .vec 7, .vec 8] :: .dead :: .dead :: .dead :: .dead :: oV b1 b2 b3 b4 [.cells 52 [.int .i64 7, .int .i64 0, .str (⟨#[]⟩ : BA), .int .u64 0]])⟩) [0, 1, 2, 3, 4, 6, 7, 8, 9, 5] (by kernel_rfl) (by kernel_rfl) (by kernel_rfl) (by kernel_rfl)), trivial, .inl (by (try rw [hF]); kernel_rfl), by (try rw [hF]); kernel_rfl⟩
           · refine ⟨(by (iterate 4 refine Z2 (by (try refine fun (_ : _ = _) => ?_); first | omega | (constructor <;> omega)) ?_); (iterate 2 refine Z2 (by assumption) ?_); exact Z9), ?_⟩
             refine ⟨Z2 (by (try refine fun (_ : _ = _) => ?_); have hd2 := congrArg List.length (Z228 a1 b1 b2 b3 b4); have h8 := rD_DoL_len a1 b1 b2 b3 b4 ((Z17 a1 b1 b2 b3 b4).2.2.2.2) 0 []; simp only [List.length_nil] at h8; unfold Z18 maxLen; simp only [List.length_cons, List.length_nil]; omega) (Z9), ?_⟩
             have hF : Z2c a1 b1 b2 b3 b4 = (((Z17 a1 b1 b2 b3 b4).1), (Z17 a1 b1 b2 b3 b4).2.1, (Z17 a1 b1 b2 b3 b4).2.2.1, (Z17 a1 b1 b2 b3 b4).2.2.2.1, ((Z6a a1 b1 b2 b3 b4 ((Z17 a1 b1 b2 b3 b4).2.2.2.2) 0 []) ++ [(⟨a1, ((Z17 a1 b1 b2 b3 b4).1)⟩ : XDone)])) := by first | exact (Z3 h1 (Z3 h2 (Z3 h3 (Z3 h4 (Z3 h5 rfl))))) | simp only [Z2c, h0, h1, h2, h3, h4, h5, cond_true, cond_false]
             exact ⟨_, ((((Turn.moveC 0 0 6 10 rfl rfl rfl (by simp [hset, oM, oV])).trans (Turn.moveC 0 1 7 11 rfl rfl rfl (by simp [hset, oM, oV]))).trans (Turn.moveC 0 2 8 12 rfl rfl rfl (by simp [hset, oM, oV]))).trans (Turn.moveC 0 3 9 13 rfl rfl rfl (by simp [hset, oM, oV]))).trans (Turn.fits (p := ⟨Za 144 [(4, .ptr 9 0)], (.cells 111 [.vec 5, .vec 6, .vec 7, .vec 8] :: .dead :: .dead :: .dead :: .dead :: oV ((Z17 a1 b1 b2 b3 b4).2.1) ((Z17 a1 b1 b2 b3 b4).2.2.1) ((Z17 a1 b1 b2 b3 b4).2.2.2.1) ((Z6a a1 b1 b2 b3 b4 ((Z17 a1 b1 b2 b3 b4).2.2.2.2) 0 []) ++ [(⟨a1, ((Z17 a1 b1 b2 b3 b4).1)⟩ : XDone)]) [.cells 52 [.int .i64 (((Z17 a1 b1 b2 b3 b4).1).err), .int .i64 (((Z17 a1 b1 b2 b3 b4).1).size), .str (((Z17 a1 b1 b2 b3 b4).1).zone), .int .u64 (((Z17 a1 b1 b2 b3 b4).1).tag)]])⟩) [0, 1, 2, 3, 4, 10, 11, 12, 13, 5] (by kernel_rfl) (by kernel_rfl) (by kernel_rfl) (by kernel_rfl)), trivial, .inl (by (try rw [hF]); kernel_rfl), by (try rw [hF]); kernel_rfl⟩
noncomputable def rD_Do_fact : Fact Tryz.prog := Z4b 55 Tryz.f55 (by kernel_rfl) rfl (by kernel_rfl) [.c (.ptr 0 0), .st .call] [.cells 111 [.vec 1, .vec 2, .vec 3, .vec 4], .vec false .zone, .vec false .vol, .vec false .snap, .vec false .done] false (fun t u => .agg [.int .i64 (((Z2c t.2.1 u.2.1 u.2.2.1 u.2.2.2.1 u.2.2.2.2.1).1).err), .int .i64 (((Z2c t.2.1 u.2.1 u.2.2.1 u.2.2.2.1 u.2.2.2.2.1).1).size), .str (((Z2c t.2.1 u.2.1 u.2.2.1 u.2.2.2.1 u.2.2.2.2.1).1).zone), .int .u64 (((Z2c t.2.1 u.2.1 u.2.2.1 u.2.2.2.1 u.2.2.2.2.1).1).tag)]) (fun t u => (.cells 111 [.vec 5, .vec 6, .vec 7, .vec 8] :: .dead :: .dead :: .dead :: .dead :: oV ((Z2c t.2.1 u.2.1 u.2.2.1 u.2.2.2.1 u.2.2.2.2.1).2.1) ((Z2c t.2.1 u.2.1 u.2.2.1 u.2.2.2.1 u.2.2.2.2.1).2.2.1) ((Z2c t.2.1 u.2.1 u.2.2.1 u.2.2.2.1 u.2.2.2.2.1).2.2.2.1) ((Z2c t.2.1 u.2.1 u.2.2.1 u.2.2.2.1 u.2.2.2.2.1).2.2.2.2) [])) (fun t u => [u.2.1.length ≤ 1000, u.2.2.1.length ≤ 1000, u.2.2.2.1.length ≤ 1000, u.2.2.2.2.1.length ≤ 1000, ∀ v ∈ u.2.2.1, v.nodes.length ≤ 1000, ∀ v ∈ u.2.2.1, ZHas u.2.1 v.zone, CS t.2.1])
 (nofun) (fun t u => by kernel_rfl) (fun t u => by kernel_rfl) (fun t u h => rD_DoF_tr t.2.1 u.2.1 u.2.2.1 u.2.2.2.1 u.2.2.2.2.1 (h _ mS) (h _ (mN mS)) (h _ (mN (mN mS))) (h _ (mN (mN (mN mS)))) (h _ (mN (mN (mN (mN mS))))) (h _ (mN (mN (mN (mN (mN mS)))))) (h _ (mN (mN (mN (mN (mN (mN mS))))))))
end Go.Proofs.YtkledlcmhbjadaaGreat
