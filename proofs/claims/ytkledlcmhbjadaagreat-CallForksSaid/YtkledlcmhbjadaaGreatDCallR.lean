/- The document's client: its methods. -/
import Derived.Test.YtkledlcmhbjadaaGreatDRDo
import Derived.Test.YtkledlcmhbjadaaGreatDRTell
import Derived.Test.YtkledlcmhbjadaaGreatDRNew
import Derived.Test.YtkledlcmhbjadaaGreatDRGets
import Derived.Test.YtkledlcmhbjadaaGreatDH3
set_option linter.unusedVariables false
set_option linter.unusedSimpArgs false
set_option maxRecDepth 100000
namespace Go.Proofs.YtkledlcmhbjadaaGreat
open Go Go.Eng
noncomputable def Z22d : Env := Z65 (P := Tryz.prog) [Z1ac, rD_Do_fact] [] [] ckf true
def Zf (a1 : XCall) (a2 : Int) (b2 : LK) (b3 : LZ) (b4 : LV) (b5 : LS) (b6 : LQ) : XRes × LK × LZ × LV × LS × LQ :=
 cond (cond (!(Z45 a1)) true (decide (a2 > (3 : Int))))
   ((⟨(2 : Int), (0 : Int), (⟨#[]⟩ : BA), (0 : Int)⟩ : XRes), b2, b3, b4, b5, b6)
   (cond (decide ((b2.length : Int) ≥ (4096 : Int)))
     ((⟨(7 : Int), (0 : Int), (⟨#[]⟩ : BA), (0 : Int)⟩ : XRes), b2, b3, b4, b5, b6)
     (cond (a2 == (0 : Int))
       (((Z2c a1 b3 b4 b5 b6).1), (([] ++ b2) ++ [a1]), (Z2c a1 b3 b4 b5 b6).2.1, (Z2c a1 b3 b4 b5 b6).2.2.1, (Z2c a1 b3 b4 b5 b6).2.2.2.1, (Z2c a1 b3 b4 b5 b6).2.2.2.2)
       (cond (a2 == (1 : Int))
         ((⟨(10 : Int), (0 : Int), (⟨#[]⟩ : BA), (0 : Int)⟩ : XRes), (([] ++ b2) ++ [a1]), b3, b4, b5, b6)
         (cond (a2 == (2 : Int))
           ((⟨(13 : Int), (0 : Int), (⟨#[]⟩ : BA), (0 : Int)⟩ : XRes), (([] ++ b2) ++ [a1]), (Z2c a1 b3 b4 b5 b6).2.1, (Z2c a1 b3 b4 b5 b6).2.2.1, (Z2c a1 b3 b4 b5 b6).2.2.2.1, (Z2c a1 b3 b4 b5 b6).2.2.2.2)
           ((⟨(13 : Int), (0 : Int), (⟨#[]⟩ : BA), (0 : Int)⟩ : XRes), (([] ++ b2) ++ [a1]), b3, b4, b5, b6)))))
def Z146 (a1 : XCall) (a2 : Int) (b2 : LK) (b3 : LZ) (b4 : LV) (b5 : LS) (b6 : LQ) : RT :=
 (.ask false
   .fail
   (.need [CS a1]
     (.ask (cond (!(Z45 a1)) true (decide (a2 > (3 : Int))))
       (.leaf .ret ⟨Za 61 [(6, .ptr 7 0)], (.cells 72 [.ptr 1 0, .vec 2] :: .cells 111 [.vec 3, .vec 4, .vec 5, .vec 6] :: .vec false ⟨.call, b2⟩ :: oV b3 b4 b5 b6 [.cells 52 [.int .i64 2, .int .i64 0, .str (⟨#[]⟩ : BA), .int .u64 0]])⟩ [0, 1, 2, 3, 4, 5, 6, 8])
       (.ask (decide ((b2.length : Int) ≥ (4096 : Int)))
         (.leaf .ret ⟨Za 61 [(6, .ptr 7 0)], (.cells 72 [.ptr 1 0, .vec 2] :: .cells 111 [.vec 3, .vec 4, .vec 5, .vec 6] :: .vec false ⟨.call, b2⟩ :: oV b3 b4 b5 b6 [.cells 52 [.int .i64 7, .int .i64 0, .str (⟨#[]⟩ : BA), .int .u64 0]])⟩ [0, 1, 2, 3, 4, 5, 6, 8])
         (.need [(([] : LK).length + b2.length) * 88 ≤ Z18 ∧ ([] : LK).length + b2.length ≤ maxLen, (([] ++ b2).length + [a1].length) * 88 ≤ Z18 ∧ ([] ++ b2).length + [a1].length ≤ maxLen]
           (.ask (a2 == (0 : Int))
             (.need [b3.length ≤ 1000, b4.length ≤ 1000, b5.length ≤ 1000, b6.length ≤ 1000, ∀ v ∈ b4, v.nodes.length ≤ 1000, ∀ v ∈ b4, ZHas b3 v.zone, CS a1]
               (.leaf .ret ⟨Za 61 [(6, .ptr 7 0)], (.cells 72 [.ptr 1 0, .vec 8] :: .cells 111 [.vec 9, .vec 10, .vec 11, .vec 12] :: .vec false ⟨.call, b2⟩ :: .dead :: .dead :: .dead :: .dead :: .cells 52 [.int .i64 (((Z2c a1 b3 b4 b5 b6).1).err), .int .i64 (((Z2c a1 b3 b4 b5 b6).1).size), .str (((Z2c a1 b3 b4 b5 b6).1).zone), .int .u64 (((Z2c a1 b3 b4 b5 b6).1).tag)] :: .vec false ⟨.call, (([] ++ b2) ++ [a1])⟩ :: oV ((Z2c a1 b3 b4 b5 b6).2.1) ((Z2c a1 b3 b4 b5 b6).2.2.1) ((Z2c a1 b3 b4 b5 b6).2.2.2.1) ((Z2c a1 b3 b4 b5 b6).2.2.2.2) [])⟩ [0, 1, 2, 3, 4, 5, 6, 8, 12, 13, 14, 15, 16]))
             (.ask (a2 == (1 : Int))
               (.leaf .ret ⟨Za 61 [(6, .ptr 7 0)], (.cells 72 [.ptr 1 0, .vec 8] :: .cells 111 [.vec 3, .vec 4, .vec 5, .vec 6] :: .vec false ⟨.call, b2⟩ :: oV b3 b4 b5 b6 [.cells 52 [.int .i64 10, .int .i64 0, .str (⟨#[]⟩ : BA), .int .u64 0], .vec false ⟨.call, (([] ++ b2) ++ [a1])⟩])⟩ [0, 1, 2, 3, 4, 5, 6, 8, 12])
               (.ask (a2 == (2 : Int))
                 (.need [b3.length ≤ 1000, b4.length ≤ 1000, b5.length ≤ 1000, b6.length ≤ 1000, ∀ v ∈ b4, v.nodes.length ≤ 1000, ∀ v ∈ b4, ZHas b3 v.zone, CS a1]
                   (.leaf .ret ⟨Za 61 [(6, .ptr 7 0)], (.cells 72 [.ptr 1 0, .vec 8] :: .cells 111 [.vec 9, .vec 10, .vec 11, .vec 12] :: .vec false ⟨.call, b2⟩ :: .dead :: .dead :: .dead :: .dead :: .cells 52 [.int .i64 13, .int .i64 0, .str (⟨#[]⟩ : BA), .int .u64 0] :: .vec false ⟨.call, (([] ++ b2) ++ [a1])⟩ :: oV ((Z2c a1 b3 b4 b5 b6).2.1) ((Z2c a1 b3 b4 b5 b6).2.2.1) ((Z2c a1 b3 b4 b5 b6).2.2.2.1) ((Z2c a1 b3 b4 b5 b6).2.2.2.2) [])⟩ [0, 1, 2, 3, 4, 5, 6, 8, 12, 13, 14, 15, 16]))
                 (.leaf .ret ⟨Za 61 [(6, .ptr 7 0)], (.cells 72 [.ptr 1 0, .vec 8] :: .cells 111 [.vec 3, .vec 4, .vec 5, .vec 6] :: .vec false ⟨.call, b2⟩ :: oV b3 b4 b5 b6 [.cells 52 [.int .i64 13, .int .i64 0, .str (⟨#[]⟩ : BA), .int .u64 0], .vec false ⟨.call, (([] ++ b2) ++ [a1])⟩])⟩ [0, 1, 2, 3, 4, 5, 6, 8, 12])))))))))
theorem Z1be (a1 : XCall) (a2 : Int) (b2 : LK) (b3 : LZ) (b4 : LV) (b5 : LS) (b6 : LQ) (hp0 : CS a1) (hp1 : b3.length ≤ 1000) (hp2 : b4.length ≤ 1000) (hp3 : b5.length ≤ 1000) (hp4 : b6.length ≤ 1000) (hp5 : ∀ v ∈ b4, v.nodes.length ≤ 1000) (hp6 : ∀ v ∈ b4, ZHas b3 v.zone) : Tr Tryz.prog 7 (Z3c Tryz.f33) (Z27 Tryz.f33 [.ptr 0 0, .agg (cc a1), .int .u8 a2] (.cells 72 [.ptr 1 0, .vec 2] :: .cells 111 [.vec 3, .vec 4, .vec 5, .vec 6] :: .vec false ⟨.call, b2⟩ :: oV b3 b4 b5 b6 [])) (Z48 Tryz.prog Tryz.f33 (.agg [.int .i64 (((Zf a1 a2 b2 b3 b4 b5 b6).1).err), .int .i64 (((Zf a1 a2 b2 b3 b4 b5 b6).1).size), .str (((Zf a1 a2 b2 b3 b4 b5 b6).1).zone), .int .u64 (((Zf a1 a2 b2 b3 b4 b5 b6).1).tag)]) (.cells 72 [.ptr 1 0, .vec 7] :: .cells 111 [.vec 8, .vec 9, .vec 10, .vec 11] :: .dead :: .dead :: .dead :: .dead :: .dead :: .vec false ⟨.call, (Zf a1 a2 b2 b3 b4 b5 b6).2.1⟩ :: oV ((Zf a1 a2 b2 b3 b4 b5 b6).2.2.1) ((Zf a1 a2 b2 b3 b4 b5 b6).2.2.2.1) ((Zf a1 a2 b2 b3 b4 b5 b6).2.2.2.2.1) ((Zf a1 a2 b2 b3 b4 b5 b6).2.2.2.2.2) [])) := by
 refine Tr.post ?_
 refine Z2f (kok _ _ _ _ _ _) (E := Z22d) (L := Z32) 60 9999 Z14.none (Z146 a1 a2 b2 b3 b4 b5 b6) (by kernel_rfl) (by kernel_rfl) (by kernel_rfl) ?_
 unfold Z146
 refine ⟨fun h0 => ?_, fun h0 => ?_⟩
 · exact absurd h0 (by simp)
 · refine ⟨Z2 (by assumption) (Z9), ?_⟩
   refine ⟨fun h1 => ?_, fun h1 => ?_⟩
   · have hF : Zf a1 a2 b2 b3 b4 b5 b6 = ((⟨(2 : Int), (0 : Int), (⟨#[]⟩ : BA), (0 : Int)⟩ : XRes), b2, b3, b4, b5, b6) := by first | exact (Z12 h1 rfl) | simp only [Zf, h0, h1, cond_true, cond_false]
     exact ⟨_, (((((Turn.moveC 0 1 2 8 rfl rfl rfl (by simp [hset, oM, oV])).trans (Turn.moveC 1 0 3 9 rfl rfl rfl (by simp [hset, oM, oV]))).trans (Turn.moveC 1 1 4 10 rfl rfl rfl (by simp [hset, oM, oV]))).trans (Turn.moveC 1 2 5 11 rfl rfl rfl (by simp [hset, oM, oV]))).trans (Turn.moveC 1 3 6 12 rfl rfl rfl (by simp [hset, oM, oV]))).trans (Turn.fits (p := ⟨Za 61 [(6, .ptr 12 0)], (.cells 72 [.ptr 1 0, .vec 7] :: .cells 111 [.vec 8, .vec 9, .vec 10, .vec 11] :: .dead :: .dead :: .dead :: .dead :: .dead :: .vec false ⟨.call, b2⟩ :: oV b3 b4 b5 b6 [.cells 52 [.int .i64 2, .int .i64 0, .str (⟨#[]⟩ : BA), .int .u64 0]])⟩) [0, 1, 2, 3, 4, 5, 6, 8, 9, 10, 11, 12, 7] (by kernel_rfl) (by kernel_rfl) (by kernel_rfl) (by kernel_rfl)), trivial, .inl (by (try rw [hF]); kernel_rfl), by (try rw [hF]); kernel_rfl⟩
   · refine ⟨fun h2 => ?_, fun h2 => ?_⟩
     · have hF : Zf a1 a2 b2 b3 b4 b5 b6 = ((⟨(7 : Int), (0 : Int), (⟨#[]⟩ : BA), (0 : Int)⟩ : XRes), b2, b3, b4, b5, b6) := by first | exact (Z3 h1 (Z12 h2 rfl)) | simp only [Zf, h0, h1, h2, cond_true, cond_false]
       exact ⟨_, (((((Turn.moveC 0 1 2 8 rfl rfl rfl (by simp [hset, oM, oV])).trans (Turn.moveC 1 0 3 9 rfl rfl rfl (by simp [hset, oM, oV]))).trans (Turn.moveC 1 1 4 10 rfl rfl rfl (by simp [hset, oM, oV]))).trans (Turn.moveC 1 2 5 11 rfl rfl rfl (by simp [hset, oM, oV]))).trans (Turn.moveC 1 3 6 12 rfl rfl rfl (by simp [hset, oM, oV]))).trans (Turn.fits (p := ⟨Za 61 [(6, .ptr 12 0)], (.cells 72 [.ptr 1 0, .vec 7] :: .cells 111 [.vec 8, .vec 9, .vec 10, .vec 11] :: .dead :: .dead :: .dead :: .dead :: .dead :: .vec false ⟨.call, b2⟩ :: oV b3 b4 b5 b6 [.cells 52 [.int .i64 7, .int .i64 0, .str (⟨#[]⟩ : BA), .int .u64 0]])⟩) [0, 1, 2, 3, 4, 5, 6, 8, 9, 10, 11, 12, 7] (by kernel_rfl) (by kernel_rfl) (by kernel_rfl) (by kernel_rfl)), trivial, .inl (by (try rw [hF]); kernel_rfl), by (try rw [hF]); kernel_rfl⟩
     · refine ⟨(by (iterate 2 refine Z2 (by (simp only [decide_eq_false_iff_not] at *); unfold Z18 maxLen; (try simp only [List.length_append, List.length_cons, List.length_nil]); omega) ?_); exact Z9), ?_⟩
       refine ⟨fun h3 => ?_, fun h3 => ?_⟩
       · refine ⟨(by (iterate 7 refine Z2 (by assumption) ?_); exact Z9), ?_⟩
         have hF : Zf a1 a2 b2 b3 b4 b5 b6 = (((Z2c a1 b3 b4 b5 b6).1), (([] ++ b2) ++ [a1]), (Z2c a1 b3 b4 b5 b6).2.1, (Z2c a1 b3 b4 b5 b6).2.2.1, (Z2c a1 b3 b4 b5 b6).2.2.2.1, (Z2c a1 b3 b4 b5 b6).2.2.2.2) := by first | exact (Z3 h1 (Z3 h2 (Z12 h3 rfl))) | simp only [Zf, h0, h1, h2, h3, cond_true, cond_false]
         exact ⟨_, (((((Turn.moveC 0 1 8 13 rfl rfl rfl (by simp [hset, oM, oV])).trans (Turn.moveC 1 0 9 14 rfl rfl rfl (by simp [hset, oM, oV]))).trans (Turn.moveC 1 1 10 15 rfl rfl rfl (by simp [hset, oM, oV]))).trans (Turn.moveC 1 2 11 16 rfl rfl rfl (by simp [hset, oM, oV]))).trans (Turn.moveC 1 3 12 17 rfl rfl rfl (by simp [hset, oM, oV]))).trans (Turn.fits (p := ⟨Za 61 [(6, .ptr 12 0)], (.cells 72 [.ptr 1 0, .vec 7] :: .cells 111 [.vec 8, .vec 9, .vec 10, .vec 11] :: .dead :: .dead :: .dead :: .dead :: .dead :: .vec false ⟨.call, (([] ++ b2) ++ [a1])⟩ :: oV ((Z2c a1 b3 b4 b5 b6).2.1) ((Z2c a1 b3 b4 b5 b6).2.2.1) ((Z2c a1 b3 b4 b5 b6).2.2.2.1) ((Z2c a1 b3 b4 b5 b6).2.2.2.2) [.cells 52 [.int .i64 (((Z2c a1 b3 b4 b5 b6).1).err), .int .i64 (((Z2c a1 b3 b4 b5 b6).1).size), .str (((Z2c a1 b3 b4 b5 b6).1).zone), .int .u64 (((Z2c a1 b3 b4 b5 b6).1).tag)]])⟩) [0, 1, 2, 3, 4, 5, 6, 13, 14, 15, 16, 17, 7] (by kernel_rfl) (by kernel_rfl) (by kernel_rfl) (by kernel_rfl)), trivial, .inl (by (try rw [hF]); kernel_rfl), by (try rw [hF]); kernel_rfl⟩
       · refine ⟨fun h4 => ?_, fun h4 => ?_⟩
         · have hF : Zf a1 a2 b2 b3 b4 b5 b6 = ((⟨(10 : Int), (0 : Int), (⟨#[]⟩ : BA), (0 : Int)⟩ : XRes), (([] ++ b2) ++ [a1]), b3, b4, b5, b6) := by first | exact (Z3 h1 (Z3 h2 (Z3 h3 (Z12 h4 rfl)))) | simp only [Zf, h0, h1, h2, h3, h4, cond_true, cond_false]
           exact ⟨_, (((((Turn.moveC 0 1 8 9 rfl rfl rfl (by simp [hset, oM, oV])).trans (Turn.moveC 1 0 3 10 rfl rfl rfl (by simp [hset, oM, oV]))).trans (Turn.moveC 1 1 4 11 rfl rfl rfl (by simp [hset, oM, oV]))).trans (Turn.moveC 1 2 5 12 rfl rfl rfl (by simp [hset, oM, oV]))).trans (Turn.moveC 1 3 6 13 rfl rfl rfl (by simp [hset, oM, oV]))).trans (Turn.fits (p := ⟨Za 61 [(6, .ptr 12 0)], (.cells 72 [.ptr 1 0, .vec 7] :: .cells 111 [.vec 8, .vec 9, .vec 10, .vec 11] :: .dead :: .dead :: .dead :: .dead :: .dead :: .vec false ⟨.call, (([] ++ b2) ++ [a1])⟩ :: oV b3 b4 b5 b6 [.cells 52 [.int .i64 10, .int .i64 0, .str (⟨#[]⟩ : BA), .int .u64 0]])⟩) [0, 1, 2, 3, 4, 5, 6, 9, 10, 11, 12, 13, 7] (by kernel_rfl) (by kernel_rfl) (by kernel_rfl) (by kernel_rfl)), trivial, .inl (by (try rw [hF]); kernel_rfl), by (try rw [hF]); kernel_rfl⟩
         · refine ⟨fun h5 => ?_, fun h5 => ?_⟩
           · refine ⟨(by (iterate 7 refine Z2 (by assumption) ?_); exact Z9), ?_⟩
             have hF : Zf a1 a2 b2 b3 b4 b5 b6 = ((⟨(13 : Int), (0 : Int), (⟨#[]⟩ : BA), (0 : Int)⟩ : XRes), (([] ++ b2) ++ [a1]), (Z2c a1 b3 b4 b5 b6).2.1, (Z2c a1 b3 b4 b5 b6).2.2.1, (Z2c a1 b3 b4 b5 b6).2.2.2.1, (Z2c a1 b3 b4 b5 b6).2.2.2.2) := by first | exact (Z3 h1 (Z3 h2 (Z3 h3 (Z3 h4 (Z12 h5 rfl))))) | simp only [Zf, h0, h1, h2, h3, h4, h5, cond_true, cond_false]
             exact ⟨_, (((((Turn.moveC 0 1 8 13 rfl rfl rfl (by simp [hset, oM, oV])).trans (Turn.moveC 1 0 9 14 rfl rfl rfl (by simp [hset, oM, oV]))).trans (Turn.moveC 1 1 10 15 rfl rfl rfl (by simp [hset, oM, oV]))).trans (Turn.moveC 1 2 11 16 rfl rfl rfl (by simp [hset, oM, oV]))).trans (Turn.moveC 1 3 12 17 rfl rfl rfl (by simp [hset, oM, oV]))).trans (Turn.fits (p := ⟨Za 61 [(6, .ptr 12 0)], (.cells 72 [.ptr 1 0, .vec 7] :: .cells 111 [.vec 8, .vec 9, .vec 10, .vec 11] :: .dead :: .dead :: .dead :: .dead :: .dead :: .vec false ⟨.call, (([] ++ b2) ++ [a1])⟩ :: oV ((Z2c a1 b3 b4 b5 b6).2.1) ((Z2c a1 b3 b4 b5 b6).2.2.1) ((Z2c a1 b3 b4 b5 b6).2.2.2.1) ((Z2c a1 b3 b4 b5 b6).2.2.2.2) [.cells 52 [.int .i64 13, .int .i64 0, .str (⟨#[]⟩ : BA), .int .u64 0]])⟩) [0, 1, 2, 3, 4, 5, 6, 13, 14, 15, 16, 17, 7] (by kernel_rfl) (by kernel_rfl) (by kernel_rfl) (by kernel_rfl)), trivial, .inl (by (try rw [hF]); kernel_rfl), by (try rw [hF]); kernel_rfl⟩
           · have hF : Zf a1 a2 b2 b3 b4 b5 b6 = ((⟨(13 : Int), (0 : Int), (⟨#[]⟩ : BA), (0 : Int)⟩ : XRes), (([] ++ b2) ++ [a1]), b3, b4, b5, b6) := by first | exact (Z3 h1 (Z3 h2 (Z3 h3 (Z3 h4 (Z3 h5 rfl))))) | simp only [Zf, h0, h1, h2, h3, h4, h5, cond_true, cond_false]
             exact ⟨_, (((((Turn.moveC 0 1 8 9 rfl rfl rfl (by simp [hset, oM, oV])).trans (Turn.moveC 1 0 3 10 rfl rfl rfl (by simp [hset, oM, oV]))).trans (Turn.moveC 1 1 4 11 rfl rfl rfl (by simp [hset, oM, oV]))).trans (Turn.moveC 1 2 5 12 rfl rfl rfl (by simp [hset, oM, oV]))).trans (Turn.moveC 1 3 6 13 rfl rfl rfl (by simp [hset, oM, oV]))).trans (Turn.fits (p := ⟨Za 61 [(6, .ptr 12 0)], (.cells 72 [.ptr 1 0, .vec 7] :: .cells 111 [.vec 8, .vec 9, .vec 10, .vec 11] :: .dead :: .dead :: .dead :: .dead :: .dead :: .vec false ⟨.call, (([] ++ b2) ++ [a1])⟩ :: oV b3 b4 b5 b6 [.cells 52 [.int .i64 13, .int .i64 0, .str (⟨#[]⟩ : BA), .int .u64 0]])⟩) [0, 1, 2, 3, 4, 5, 6, 9, 10, 11, 12, 13, 7] (by kernel_rfl) (by kernel_rfl) (by kernel_rfl) (by kernel_rfl)), trivial, .inl (by (try rw [hF]); kernel_rfl), by (try rw [hF]); kernel_rfl⟩
noncomputable def Z198 : Fact Tryz.prog := Z4b 33 Tryz.f33 (by kernel_rfl) rfl (by kernel_rfl) [.c (.ptr 0 0), .st .call, .c (.int .u8)] [.cells 72 [.ptr 1 0, .vec 2], .cells 111 [.vec 3, .vec 4, .vec 5, .vec 6], .vec false .call, .vec false .zone, .vec false .vol, .vec false .snap, .vec false .done] false (fun t u => .agg [.int .i64 (((Zf t.2.1 t.2.2.1 u.2.2.1 u.2.2.2.1 u.2.2.2.2.1 u.2.2.2.2.2.1 u.2.2.2.2.2.2.1).1).err), .int .i64 (((Zf t.2.1 t.2.2.1 u.2.2.1 u.2.2.2.1 u.2.2.2.2.1 u.2.2.2.2.2.1 u.2.2.2.2.2.2.1).1).size), .str (((Zf t.2.1 t.2.2.1 u.2.2.1 u.2.2.2.1 u.2.2.2.2.1 u.2.2.2.2.2.1 u.2.2.2.2.2.2.1).1).zone), .int .u64 (((Zf t.2.1 t.2.2.1 u.2.2.1 u.2.2.2.1 u.2.2.2.2.1 u.2.2.2.2.2.1 u.2.2.2.2.2.2.1).1).tag)]) (fun t u => (.cells 72 [.ptr 1 0, .vec 7] :: .cells 111 [.vec 8, .vec 9, .vec 10, .vec 11] :: .dead :: .dead :: .dead :: .dead :: .dead :: .vec false ⟨.call, (Zf t.2.1 t.2.2.1 u.2.2.1 u.2.2.2.1 u.2.2.2.2.1 u.2.2.2.2.2.1 u.2.2.2.2.2.2.1).2.1⟩ :: oV ((Zf t.2.1 t.2.2.1 u.2.2.1 u.2.2.2.1 u.2.2.2.2.1 u.2.2.2.2.2.1 u.2.2.2.2.2.2.1).2.2.1) ((Zf t.2.1 t.2.2.1 u.2.2.1 u.2.2.2.1 u.2.2.2.2.1 u.2.2.2.2.2.1 u.2.2.2.2.2.2.1).2.2.2.1) ((Zf t.2.1 t.2.2.1 u.2.2.1 u.2.2.2.1 u.2.2.2.2.1 u.2.2.2.2.2.1 u.2.2.2.2.2.2.1).2.2.2.2.1) ((Zf t.2.1 t.2.2.1 u.2.2.1 u.2.2.2.1 u.2.2.2.2.1 u.2.2.2.2.2.1 u.2.2.2.2.2.2.1).2.2.2.2.2) [])) (fun t u => [CS t.2.1, u.2.2.2.1.length ≤ 1000, u.2.2.2.2.1.length ≤ 1000, u.2.2.2.2.2.1.length ≤ 1000, u.2.2.2.2.2.2.1.length ≤ 1000, ∀ v ∈ u.2.2.2.2.1, v.nodes.length ≤ 1000, ∀ v ∈ u.2.2.2.2.1, ZHas u.2.2.2.1 v.zone])
 (nofun) (fun t u => by kernel_rfl) (fun t u => by kernel_rfl) (fun t u h => Z1be t.2.1 t.2.2.1 u.2.2.1 u.2.2.2.1 u.2.2.2.2.1 u.2.2.2.2.2.1 u.2.2.2.2.2.2.1 (h _ mS) (h _ (mN mS)) (h _ (mN (mN mS))) (h _ (mN (mN (mN mS)))) (h _ (mN (mN (mN (mN mS))))) (h _ (mN (mN (mN (mN (mN mS)))))) (h _ (mN (mN (mN (mN (mN (mN mS))))))))
noncomputable def Z1fd : Env := Z65 (P := Tryz.prog) [rD_Do_fact] [] [] ckf true
def Zd (a1 : Int) (b2 : LK) (b3 : LZ) (b4 : LV) (b5 : LS) (b6 : LQ) : Int × LZ × LV × LS × LQ :=
 cond (cond (decide (a1 < (0 : Int))) true (decide (a1 ≥ (b2.length : Int))))
   ((3 : Int), b3, b4, b5, b6)
   ((0 : Int), (Z2c (b2.getD a1.toNat default) b3 b4 b5 b6).2.1, (Z2c (b2.getD a1.toNat default) b3 b4 b5 b6).2.2.1, (Z2c (b2.getD a1.toNat default) b3 b4 b5 b6).2.2.2.1, (Z2c (b2.getD a1.toNat default) b3 b4 b5 b6).2.2.2.2)
def Z11c (a1 : Int) (b2 : LK) (b3 : LZ) (b4 : LV) (b5 : LS) (b6 : LQ) : RT :=
 (.ask false
   .fail
   (.ask (cond (decide (a1 < (0 : Int))) true (decide (a1 ≥ (b2.length : Int))))
     (.leaf .ret ⟨Za 32 [(4, .int .i64 3)], (.cells 72 [.ptr 1 0, .vec 2] :: .cells 111 [.vec 3, .vec 4, .vec 5, .vec 6] :: .vec false ⟨.call, b2⟩ :: oV b3 b4 b5 b6 [])⟩ [])
     (.need [0 ≤ a1 ∧ a1 < (b2.length : Int), b3.length ≤ 1000, b4.length ≤ 1000, b5.length ≤ 1000, b6.length ≤ 1000, ∀ v ∈ b4, v.nodes.length ≤ 1000, ∀ v ∈ b4, ZHas b3 v.zone, CS (b2.getD a1.toNat default)]
       (.leaf .ret ⟨Za 32 [(4, .int .i64 0)], (.cells 72 [.ptr 1 0, .vec 2] :: .cells 111 [.vec 7, .vec 8, .vec 9, .vec 10] :: .vec false ⟨.call, b2⟩ :: .dead :: .dead :: .dead :: .dead :: oV ((Z2c (b2.getD a1.toNat default) b3 b4 b5 b6).2.1) ((Z2c (b2.getD a1.toNat default) b3 b4 b5 b6).2.2.1) ((Z2c (b2.getD a1.toNat default) b3 b4 b5 b6).2.2.2.1) ((Z2c (b2.getD a1.toNat default) b3 b4 b5 b6).2.2.2.2) [])⟩ []))))
theorem Z19a (a1 : Int) (b2 : LK) (b3 : LZ) (b4 : LV) (b5 : LS) (b6 : LQ) (hp0 : ∀ x ∈ b2, CS x) (hp1 : b3.length ≤ 1000) (hp2 : b4.length ≤ 1000) (hp3 : b5.length ≤ 1000) (hp4 : b6.length ≤ 1000) (hp5 : ∀ v ∈ b4, v.nodes.length ≤ 1000) (hp6 : ∀ v ∈ b4, ZHas b3 v.zone) : Tr Tryz.prog 7 (Z3c Tryz.f30) (Z27 Tryz.f30 [.ptr 0 0, .int .i64 a1] (.cells 72 [.ptr 1 0, .vec 2] :: .cells 111 [.vec 3, .vec 4, .vec 5, .vec 6] :: .vec false ⟨.call, b2⟩ :: oV b3 b4 b5 b6 [])) (Z48 Tryz.prog Tryz.f30 (.int .i64 ((Zd a1 b2 b3 b4 b5 b6).1)) (.cells 72 [.ptr 1 0, .vec 2] :: .cells 111 [.vec 7, .vec 8, .vec 9, .vec 10] :: .vec false ⟨.call, b2⟩ :: .dead :: .dead :: .dead :: .dead :: oV ((Zd a1 b2 b3 b4 b5 b6).2.1) ((Zd a1 b2 b3 b4 b5 b6).2.2.1) ((Zd a1 b2 b3 b4 b5 b6).2.2.2.1) ((Zd a1 b2 b3 b4 b5 b6).2.2.2.2) [])) := by
 refine Tr.post ?_
 refine Z2f (kok _ _ _ _ _ _) (E := Z1fd) (L := Z32) 60 9999 Z14.none (Z11c a1 b2 b3 b4 b5 b6) (by kernel_rfl) (by kernel_rfl) (by kernel_rfl) ?_
 unfold Z11c
 refine ⟨fun h0 => ?_, fun h0 => ?_⟩
 · exact absurd h0 (by simp)
 · refine ⟨fun h1 => ?_, fun h1 => ?_⟩
   · have hF : Zd a1 b2 b3 b4 b5 b6 = ((3 : Int), b3, b4, b5, b6) := by first | exact (Z12 h1 rfl) | simp only [Zd, h0, h1, cond_true, cond_false]
     exact ⟨_, ((((Turn.moveC 1 0 3 7 rfl rfl rfl (by simp [hset, oM, oV])).trans (Turn.moveC 1 1 4 8 rfl rfl rfl (by simp [hset, oM, oV]))).trans (Turn.moveC 1 2 5 9 rfl rfl rfl (by simp [hset, oM, oV]))).trans (Turn.moveC 1 3 6 10 rfl rfl rfl (by simp [hset, oM, oV]))).trans (Turn.fits (p := ⟨Za 32 [(4, .int .i64 3)], (.cells 72 [.ptr 1 0, .vec 2] :: .cells 111 [.vec 7, .vec 8, .vec 9, .vec 10] :: .vec false ⟨.call, b2⟩ :: .dead :: .dead :: .dead :: .dead :: oV b3 b4 b5 b6 [])⟩) [] (by kernel_rfl) (by kernel_rfl) (by kernel_rfl) (by kernel_rfl)), trivial, .inl (by (try rw [hF]); kernel_rfl), by (try rw [hF]); kernel_rfl⟩
   · refine ⟨(by refine Z2 (by (try simp only [Bool.cond_true_left, Bool.or_eq_false_iff, decide_eq_false_iff_not] at *); first | omega | (constructor <;> omega)) ?_; (iterate 6 refine Z2 (by assumption) ?_); refine Z2 (by (try simp only [Bool.cond_true_left, Bool.or_eq_false_iff, decide_eq_false_iff_not] at *); exact hp0 _ (Zf4 (by omega) (by omega))) ?_; exact Z9), ?_⟩
     have hF : Zd a1 b2 b3 b4 b5 b6 = ((0 : Int), (Z2c (b2.getD a1.toNat default) b3 b4 b5 b6).2.1, (Z2c (b2.getD a1.toNat default) b3 b4 b5 b6).2.2.1, (Z2c (b2.getD a1.toNat default) b3 b4 b5 b6).2.2.2.1, (Z2c (b2.getD a1.toNat default) b3 b4 b5 b6).2.2.2.2) := by first | exact (Z3 h1 rfl) | simp only [Zd, h0, h1, cond_true, cond_false]
     exact ⟨_, ((((Turn.moveC 1 0 7 11 rfl rfl rfl (by simp [hset, oM, oV])).trans (Turn.moveC 1 1 8 12 rfl rfl rfl (by simp [hset, oM, oV]))).trans (Turn.moveC 1 2 9 13 rfl rfl rfl (by simp [hset, oM, oV]))).trans (Turn.moveC 1 3 10 14 rfl rfl rfl (by simp [hset, oM, oV]))).trans (Turn.fits (p := ⟨Za 32 [(4, .int .i64 0)], (.cells 72 [.ptr 1 0, .vec 2] :: .cells 111 [.vec 7, .vec 8, .vec 9, .vec 10] :: .vec false ⟨.call, b2⟩ :: .dead :: .dead :: .dead :: .dead :: oV ((Z2c (b2.getD a1.toNat default) b3 b4 b5 b6).2.1) ((Z2c (b2.getD a1.toNat default) b3 b4 b5 b6).2.2.1) ((Z2c (b2.getD a1.toNat default) b3 b4 b5 b6).2.2.2.1) ((Z2c (b2.getD a1.toNat default) b3 b4 b5 b6).2.2.2.2) [])⟩) [0, 1, 2, 3, 4, 5, 6, 11, 12, 13, 14] (by kernel_rfl) (by kernel_rfl) (by kernel_rfl) (by kernel_rfl)), trivial, .inl (by (try rw [hF]); kernel_rfl), by (try rw [hF]); kernel_rfl⟩
noncomputable def Z14e : Fact Tryz.prog := Z4b 30 Tryz.f30 (by kernel_rfl) rfl (by kernel_rfl) [.c (.ptr 0 0), .c (.int .i64)] [.cells 72 [.ptr 1 0, .vec 2], .cells 111 [.vec 3, .vec 4, .vec 5, .vec 6], .vec false .call, .vec false .zone, .vec false .vol, .vec false .snap, .vec false .done] false (fun t u => .int .i64 ((Zd t.2.1 u.2.2.1 u.2.2.2.1 u.2.2.2.2.1 u.2.2.2.2.2.1 u.2.2.2.2.2.2.1).1)) (fun t u => (.cells 72 [.ptr 1 0, .vec 2] :: .cells 111 [.vec 7, .vec 8, .vec 9, .vec 10] :: .vec false ⟨.call, u.2.2.1⟩ :: .dead :: .dead :: .dead :: .dead :: oV ((Zd t.2.1 u.2.2.1 u.2.2.2.1 u.2.2.2.2.1 u.2.2.2.2.2.1 u.2.2.2.2.2.2.1).2.1) ((Zd t.2.1 u.2.2.1 u.2.2.2.1 u.2.2.2.2.1 u.2.2.2.2.2.1 u.2.2.2.2.2.2.1).2.2.1) ((Zd t.2.1 u.2.2.1 u.2.2.2.1 u.2.2.2.2.1 u.2.2.2.2.2.1 u.2.2.2.2.2.2.1).2.2.2.1) ((Zd t.2.1 u.2.2.1 u.2.2.2.1 u.2.2.2.2.1 u.2.2.2.2.2.1 u.2.2.2.2.2.2.1).2.2.2.2) [])) (fun t u => [∀ x ∈ u.2.2.1, CS x, u.2.2.2.1.length ≤ 1000, u.2.2.2.2.1.length ≤ 1000, u.2.2.2.2.2.1.length ≤ 1000, u.2.2.2.2.2.2.1.length ≤ 1000, ∀ v ∈ u.2.2.2.2.1, v.nodes.length ≤ 1000, ∀ v ∈ u.2.2.2.2.1, ZHas u.2.2.2.1 v.zone])
 (nofun) (fun t u => by kernel_rfl) (fun t u => by kernel_rfl) (fun t u h => Z19a t.2.1 u.2.2.1 u.2.2.2.1 u.2.2.2.2.1 u.2.2.2.2.2.1 u.2.2.2.2.2.2.1 (h _ mS) (h _ (mN mS)) (h _ (mN (mN mS))) (h _ (mN (mN (mN mS)))) (h _ (mN (mN (mN (mN mS))))) (h _ (mN (mN (mN (mN (mN mS)))))) (h _ (mN (mN (mN (mN (mN (mN mS))))))))
noncomputable def Z169 : Fact Tryz.prog := Z8c Z14e [.c (.ptr 0 0), .c (.int .i64)] [.cells 72 [.ptr 1 0, .vec 2], .cells 111 [.vec 3, .vec 4, .vec 5, .vec 6], .vec false .call, .vec false .zone, .vec false .vol, .vec false .snap, .vec false .done] (fun t u => .int .i64 ((Zd t.2.1 u.2.2.1 u.2.2.2.1 u.2.2.2.2.1 u.2.2.2.2.2.1 u.2.2.2.2.2.2.1).1)) (fun t u => (.cells 72 [.ptr 1 0, .vec 2] :: .cells 111 [.vec 7, .vec 8, .vec 9, .vec 10] :: .vec false ⟨.call, u.2.2.1⟩ :: .dead :: .dead :: .dead :: .dead :: oV ((Zd t.2.1 u.2.2.1 u.2.2.2.1 u.2.2.2.2.1 u.2.2.2.2.2.1 u.2.2.2.2.2.2.1).2.1) ((Zd t.2.1 u.2.2.1 u.2.2.2.1 u.2.2.2.2.1 u.2.2.2.2.2.1 u.2.2.2.2.2.2.1).2.2.1) ((Zd t.2.1 u.2.2.1 u.2.2.2.1 u.2.2.2.2.1 u.2.2.2.2.2.1 u.2.2.2.2.2.2.1).2.2.2.1) ((Zd t.2.1 u.2.2.1 u.2.2.2.1 u.2.2.2.2.1 u.2.2.2.2.2.1 u.2.2.2.2.2.2.1).2.2.2.2) [])) (fun t u => [∀ x ∈ u.2.2.1, CS x, u.2.2.2.1.length ≤ 1000, u.2.2.2.2.1.length ≤ 1000, u.2.2.2.2.2.1.length ≤ 1000, u.2.2.2.2.2.2.1.length ≤ 1000, ∀ v ∈ u.2.2.2.2.1, v.nodes.length ≤ 1000, ∀ v ∈ u.2.2.2.2.1, ZHas u.2.2.2.1 v.zone]) rfl [0, 2] (by
 intro t u k hk
 simp only [List.mem_cons, List.not_mem_nil, or_false] at hk
 rcases hk with rfl | rfl
 all_goals exact ⟨by decide, rfl⟩)
noncomputable def Z29b : Env := Z65 (P := Tryz.prog) [] [] [] ckf true
def Z25b (b2 : LK) (b3 : LZ) (b4 : LV) (b5 : LS) (b6 : LQ) : LK :=
 ([] ++ b2)
def Z27c (b2 : LK) (b3 : LZ) (b4 : LV) (b5 : LS) (b6 : LQ) : RT :=
 (.ask false
   .fail
   (.need [(([] : LK).length + b2.length) * 88 ≤ Z18 ∧ ([] : LK).length + b2.length ≤ maxLen]
     (.leaf .ret ⟨Za 11 [(2, .vec 7)], (.cells 72 [.ptr 1 0, .vec 2] :: .cells 111 [.vec 3, .vec 4, .vec 5, .vec 6] :: .vec false ⟨.call, b2⟩ :: oV b3 b4 b5 b6 [.vec false ⟨.call, ([] ++ b2)⟩])⟩ [0, 1, 2, 3, 4, 5, 6, 9])))
theorem Z28f (b2 : LK) (b3 : LZ) (b4 : LV) (b5 : LS) (b6 : LQ) (hp0 : b2.length ≤ 1000000) : Tr Tryz.prog 7 (Z3c Tryz.f29) (Z27 Tryz.f29 [.ptr 0 0] (.cells 72 [.ptr 1 0, .vec 2] :: .cells 111 [.vec 3, .vec 4, .vec 5, .vec 6] :: .vec false ⟨.call, b2⟩ :: oV b3 b4 b5 b6 [])) (Z48 Tryz.prog Tryz.f29 (.coll ⟨.call, Z25b b2 b3 b4 b5 b6⟩) (.cells 72 [.ptr 1 0, .vec 2] :: .cells 111 [.vec 3, .vec 4, .vec 5, .vec 6] :: .vec false ⟨.call, b2⟩ :: oV b3 b4 b5 b6 [])) := by
 refine Tr.post ?_
 refine Z2f (kok _ _ _ _ _ _) (E := Z29b) (L := Z32) 60 9999 Z14.none (Z27c b2 b3 b4 b5 b6) (by kernel_rfl) (by kernel_rfl) (by kernel_rfl) ?_
 unfold Z27c
 refine ⟨fun h0 => ?_, fun h0 => ?_⟩
 · exact absurd h0 (by simp)
 · refine ⟨Z2 (by unfold Z18 maxLen; (try simp only [List.length_nil]); omega) (Z9), ?_⟩
   have hF : Z25b b2 b3 b4 b5 b6 = ([] ++ b2) := by first | exact rfl | simp only [Z25b, h0, cond_true, cond_false]
   exact ⟨_, Turn.frz 7 rfl, trivial, .inr (by (try rw [hF]); kernel_rfl), by (try rw [hF]); kernel_rfl⟩
noncomputable def Z288 : Fact Tryz.prog := Z4b 29 Tryz.f29 (by kernel_rfl) rfl (by kernel_rfl) [.c (.ptr 0 0)] [.cells 72 [.ptr 1 0, .vec 2], .cells 111 [.vec 3, .vec 4, .vec 5, .vec 6], .vec false .call, .vec false .zone, .vec false .vol, .vec false .snap, .vec false .done] true (fun t u => .coll ⟨.call, Z25b u.2.2.1 u.2.2.2.1 u.2.2.2.2.1 u.2.2.2.2.2.1 u.2.2.2.2.2.2.1⟩) (fun t u => HPL.enc _ u) (fun t u => [u.2.2.1.length ≤ 1000000])
 (fun _ _ _ => rfl) (fun t u => by kernel_rfl) (fun t u => by kernel_rfl) (fun t u h => Z28f u.2.2.1 u.2.2.2.1 u.2.2.2.2.1 u.2.2.2.2.2.1 u.2.2.2.2.2.2.1 (h _ mS))
noncomputable def Z252 : Env := Z65 (P := Tryz.prog) [rD_Put_fact] [] [] ckf true
def Z3b (a1 : BA) (a2 : BA) (a3 : Int) (b2 : LK) (b3 : LZ) (b4 : LV) (b5 : LS) (b6 : LQ) : Int × LV :=
 (((Z7a a1 a2 a3 b3 b4 b5 b6).1), (Z7a a1 a2 a3 b3 b4 b5 b6).2)
def Z168 (a1 : BA) (a2 : BA) (a3 : Int) (b2 : LK) (b3 : LZ) (b4 : LV) (b5 : LS) (b6 : LQ) : RT :=
 (.ask false
   .fail
   (.need [b3.length ≤ 1000, b4.length ≤ 1000, b5.length ≤ 1000, b6.length ≤ 1000, ∀ v ∈ b4, v.nodes.length ≤ 1000]
     (.leaf .ret ⟨Za 19 [(8, .int .i64 ((Z7a a1 a2 a3 b3 b4 b5 b6).1))], (.cells 72 [.ptr 1 0, .vec 2] :: .cells 111 [.vec 3, .vec 4, .vec 5, .vec 6] :: .vec false ⟨.call, b2⟩ :: oV b3 ((Z7a a1 a2 a3 b3 b4 b5 b6).2) b5 b6 [])⟩ [])))
theorem Z1e0 (a1 : BA) (a2 : BA) (a3 : Int) (b2 : LK) (b3 : LZ) (b4 : LV) (b5 : LS) (b6 : LQ) (hp0 : b3.length ≤ 1000) (hp1 : b4.length ≤ 1000) (hp2 : b5.length ≤ 1000) (hp3 : b6.length ≤ 1000) (hp4 : ∀ v ∈ b4, v.nodes.length ≤ 1000) : Tr Tryz.prog 7 (Z3c Tryz.f32) (Z27 Tryz.f32 [.ptr 0 0, .str a1, .str a2, .int .u64 a3] (.cells 72 [.ptr 1 0, .vec 2] :: .cells 111 [.vec 3, .vec 4, .vec 5, .vec 6] :: .vec false ⟨.call, b2⟩ :: oV b3 b4 b5 b6 [])) (Z48 Tryz.prog Tryz.f32 (.int .i64 ((Z3b a1 a2 a3 b2 b3 b4 b5 b6).1)) (.cells 72 [.ptr 1 0, .vec 2] :: .cells 111 [.vec 3, .vec 4, .vec 5, .vec 6] :: .vec false ⟨.call, b2⟩ :: oV b3 ((Z3b a1 a2 a3 b2 b3 b4 b5 b6).2) b5 b6 [])) := by
 refine Z2f (kok _ _ _ _ _ _) (E := Z252) (L := Z32) 60 9999 Z14.none (Z168 a1 a2 a3 b2 b3 b4 b5 b6) (by kernel_rfl) (by kernel_rfl) (by kernel_rfl) ?_
 unfold Z168
 refine ⟨fun h0 => ?_, fun h0 => ?_⟩
 · exact absurd h0 (by simp)
 · refine ⟨(by (iterate 5 refine Z2 (by assumption) ?_); exact Z9), ?_⟩
   have hF : Z3b a1 a2 a3 b2 b3 b4 b5 b6 = (((Z7a a1 a2 a3 b3 b4 b5 b6).1), (Z7a a1 a2 a3 b3 b4 b5 b6).2) := by first | exact rfl | simp only [Z3b, h0, cond_true, cond_false]
   exact ⟨trivial, .inl (by (try rw [hF]); kernel_rfl), by (try rw [hF]); kernel_rfl⟩
noncomputable def Z199 : Fact Tryz.prog := Z4b 32 Tryz.f32 (by kernel_rfl) rfl (by kernel_rfl) [.c (.ptr 0 0), .c (.str), .c (.str), .c (.int .u64)] [.cells 72 [.ptr 1 0, .vec 2], .cells 111 [.vec 3, .vec 4, .vec 5, .vec 6], .vec false .call, .vec false .zone, .vec false .vol, .vec false .snap, .vec false .done] false (fun t u => .int .i64 ((Z3b t.2.1 t.2.2.1 t.2.2.2.1 u.2.2.1 u.2.2.2.1 u.2.2.2.2.1 u.2.2.2.2.2.1 u.2.2.2.2.2.2.1).1)) (fun t u => (.cells 72 [.ptr 1 0, .vec 2] :: .cells 111 [.vec 3, .vec 4, .vec 5, .vec 6] :: .vec false ⟨.call, u.2.2.1⟩ :: oV (u.2.2.2.1) ((Z3b t.2.1 t.2.2.1 t.2.2.2.1 u.2.2.1 u.2.2.2.1 u.2.2.2.2.1 u.2.2.2.2.2.1 u.2.2.2.2.2.2.1).2) (u.2.2.2.2.2.1) (u.2.2.2.2.2.2.1) [])) (fun t u => [u.2.2.2.1.length ≤ 1000, u.2.2.2.2.1.length ≤ 1000, u.2.2.2.2.2.1.length ≤ 1000, u.2.2.2.2.2.2.1.length ≤ 1000, ∀ v ∈ u.2.2.2.2.1, v.nodes.length ≤ 1000])
 (nofun) (fun t u => by kernel_rfl) (fun t u => by kernel_rfl) (fun t u h => Z1e0 t.2.1 t.2.2.1 t.2.2.2.1 u.2.2.1 u.2.2.2.1 u.2.2.2.2.1 u.2.2.2.2.2.1 u.2.2.2.2.2.2.1 (h _ mS) (h _ (mN mS)) (h _ (mN (mN mS))) (h _ (mN (mN (mN mS)))) (h _ (mN (mN (mN (mN mS))))))
noncomputable def Z1bf : Fact Tryz.prog := Z8c Z199 [.c (.ptr 0 0), .c (.str), .c (.str), .c (.int .u64)] [.cells 72 [.ptr 1 0, .vec 2], .cells 111 [.vec 3, .vec 4, .vec 5, .vec 6], .vec false .call, .vec false .zone, .vec false .vol, .vec false .snap, .vec false .done] (fun t u => .int .i64 ((Z3b t.2.1 t.2.2.1 t.2.2.2.1 u.2.2.1 u.2.2.2.1 u.2.2.2.2.1 u.2.2.2.2.2.1 u.2.2.2.2.2.2.1).1)) (fun t u => (.cells 72 [.ptr 1 0, .vec 2] :: .cells 111 [.vec 3, .vec 4, .vec 5, .vec 6] :: .vec false ⟨.call, u.2.2.1⟩ :: oV (u.2.2.2.1) ((Z3b t.2.1 t.2.2.1 t.2.2.2.1 u.2.2.1 u.2.2.2.1 u.2.2.2.2.1 u.2.2.2.2.2.1 u.2.2.2.2.2.2.1).2) (u.2.2.2.2.2.1) (u.2.2.2.2.2.2.1) [])) (fun t u => [u.2.2.2.1.length ≤ 1000, u.2.2.2.2.1.length ≤ 1000, u.2.2.2.2.2.1.length ≤ 1000, u.2.2.2.2.2.2.1.length ≤ 1000, ∀ v ∈ u.2.2.2.2.1, v.nodes.length ≤ 1000]) rfl [0, 1, 2, 3, 5, 6] (by
 intro t u k hk
 simp only [List.mem_cons, List.not_mem_nil, or_false] at hk
 rcases hk with rfl | rfl | rfl | rfl | rfl | rfl
 all_goals exact ⟨by decide, rfl⟩)
noncomputable def Z29c : Env := Z65 (P := Tryz.prog) [rD_Room_fact] [] [] ckf true
def Z25c (a1 : BA) (b2 : LK) (b3 : LZ) (b4 : LV) (b5 : LS) (b6 : LQ) : Int × Bool :=
 (((Z269 a1 b3 b4 b5 b6).1), (Z269 a1 b3 b4 b5 b6).2)
def Z27d (a1 : BA) (b2 : LK) (b3 : LZ) (b4 : LV) (b5 : LS) (b6 : LQ) : RT :=
 (.ask false
   .fail
   (.need [b3.length ≤ 1000, b4.length ≤ 1000, b5.length ≤ 1000, b6.length ≤ 1000]
     (.leaf .ret ⟨Za 16 [(4, .int .i64 ((Z269 a1 b3 b4 b5 b6).1)), (5, .bool ((Z269 a1 b3 b4 b5 b6).2))], (.cells 72 [.ptr 1 0, .vec 2] :: .cells 111 [.vec 3, .vec 4, .vec 5, .vec 6] :: .vec false ⟨.call, b2⟩ :: oV b3 b4 b5 b6 [])⟩ [])))
theorem Z290 (a1 : BA) (b2 : LK) (b3 : LZ) (b4 : LV) (b5 : LS) (b6 : LQ) (hp0 : b3.length ≤ 1000) (hp1 : b4.length ≤ 1000) (hp2 : b5.length ≤ 1000) (hp3 : b6.length ≤ 1000) : Tr Tryz.prog 7 (Z3c Tryz.f34) (Z27 Tryz.f34 [.ptr 0 0, .str a1] (.cells 72 [.ptr 1 0, .vec 2] :: .cells 111 [.vec 3, .vec 4, .vec 5, .vec 6] :: .vec false ⟨.call, b2⟩ :: oV b3 b4 b5 b6 [])) (Z48 Tryz.prog Tryz.f34 (.tup [.int .i64 ((Z25c a1 b2 b3 b4 b5 b6).1), .bool ((Z25c a1 b2 b3 b4 b5 b6).2)]) (.cells 72 [.ptr 1 0, .vec 2] :: .cells 111 [.vec 3, .vec 4, .vec 5, .vec 6] :: .vec false ⟨.call, b2⟩ :: oV b3 b4 b5 b6 [])) := by
 refine Z2f (kok _ _ _ _ _ _) (E := Z29c) (L := Z32) 60 9999 Z14.none (Z27d a1 b2 b3 b4 b5 b6) (by kernel_rfl) (by kernel_rfl) (by kernel_rfl) ?_
 unfold Z27d
 refine ⟨fun h0 => ?_, fun h0 => ?_⟩
 · exact absurd h0 (by simp)
 · refine ⟨(by (iterate 4 refine Z2 (by assumption) ?_); exact Z9), ?_⟩
   have hF : Z25c a1 b2 b3 b4 b5 b6 = (((Z269 a1 b3 b4 b5 b6).1), (Z269 a1 b3 b4 b5 b6).2) := by first | exact rfl | simp only [Z25c, h0, cond_true, cond_false]
   exact ⟨trivial, .inl (by (try rw [hF]); kernel_rfl), by (try rw [hF]); kernel_rfl⟩
noncomputable def Z289 : Fact Tryz.prog := Z4b 34 Tryz.f34 (by kernel_rfl) rfl (by kernel_rfl) [.c (.ptr 0 0), .c (.str)] [.cells 72 [.ptr 1 0, .vec 2], .cells 111 [.vec 3, .vec 4, .vec 5, .vec 6], .vec false .call, .vec false .zone, .vec false .vol, .vec false .snap, .vec false .done] true (fun t u => .tup [.int .i64 ((Z25c t.2.1 u.2.2.1 u.2.2.2.1 u.2.2.2.2.1 u.2.2.2.2.2.1 u.2.2.2.2.2.2.1).1), .bool ((Z25c t.2.1 u.2.2.1 u.2.2.2.1 u.2.2.2.2.1 u.2.2.2.2.2.1 u.2.2.2.2.2.2.1).2)]) (fun t u => HPL.enc _ u) (fun t u => [u.2.2.2.1.length ≤ 1000, u.2.2.2.2.1.length ≤ 1000, u.2.2.2.2.2.1.length ≤ 1000, u.2.2.2.2.2.2.1.length ≤ 1000])
 (fun _ _ _ => rfl) (fun t u => by kernel_rfl) (fun t u => by kernel_rfl) (fun t u h => Z290 t.2.1 u.2.2.1 u.2.2.2.1 u.2.2.2.2.1 u.2.2.2.2.2.1 u.2.2.2.2.2.2.1 (h _ mS) (h _ (mN mS)) (h _ (mN (mN mS))) (h _ (mN (mN (mN mS)))))
noncomputable def Z28b : Env := Z65 (P := Tryz.prog) [Z298] [] [] ckf true
def Z260 (b2 : LK) (b3 : LZ) (b4 : LV) (b5 : LS) (b6 : LQ) : LV :=
 Z267 b3 b4 b5 b6
def Z274 (b2 : LK) (b3 : LZ) (b4 : LV) (b5 : LS) (b6 : LQ) : RT :=
 (.ask false
   .fail
   (.need [b3.length ≤ 1000, b4.length ≤ 1000, b5.length ≤ 1000, b6.length ≤ 1000, ∀ v ∈ b4, v.nodes.length ≤ 1000]
     (.leaf .ret ⟨Za 10 [(2, .coll ⟨.vol, Z267 b3 b4 b5 b6⟩)], (.cells 72 [.ptr 1 0, .vec 2] :: .cells 111 [.vec 3, .vec 4, .vec 5, .vec 6] :: .vec false ⟨.call, b2⟩ :: oV b3 b4 b5 b6 [])⟩ [])))
theorem Z27f (b2 : LK) (b3 : LZ) (b4 : LV) (b5 : LS) (b6 : LQ) (hp0 : b3.length ≤ 1000) (hp1 : b4.length ≤ 1000) (hp2 : b5.length ≤ 1000) (hp3 : b6.length ≤ 1000) (hp4 : ∀ v ∈ b4, v.nodes.length ≤ 1000) : Tr Tryz.prog 7 (Z3c Tryz.f36) (Z27 Tryz.f36 [.ptr 0 0] (.cells 72 [.ptr 1 0, .vec 2] :: .cells 111 [.vec 3, .vec 4, .vec 5, .vec 6] :: .vec false ⟨.call, b2⟩ :: oV b3 b4 b5 b6 [])) (Z48 Tryz.prog Tryz.f36 (.coll ⟨.vol, Z260 b2 b3 b4 b5 b6⟩) (.cells 72 [.ptr 1 0, .vec 2] :: .cells 111 [.vec 3, .vec 4, .vec 5, .vec 6] :: .vec false ⟨.call, b2⟩ :: oV b3 b4 b5 b6 [])) := by
 refine Z2f (kok _ _ _ _ _ _) (E := Z28b) (L := Z32) 60 9999 Z14.none (Z274 b2 b3 b4 b5 b6) (by kernel_rfl) (by kernel_rfl) (by kernel_rfl) ?_
 unfold Z274
 refine ⟨fun h0 => ?_, fun h0 => ?_⟩
 · exact absurd h0 (by simp)
 · refine ⟨(by (iterate 5 refine Z2 (by assumption) ?_); exact Z9), ?_⟩
   have hF : Z260 b2 b3 b4 b5 b6 = (Z267 b3 b4 b5 b6) := by first | exact rfl | simp only [Z260, h0, cond_true, cond_false]
   exact ⟨trivial, .inl (by (try rw [hF]); kernel_rfl), by (try rw [hF]); kernel_rfl⟩
noncomputable def Z27a : Fact Tryz.prog := Z4b 36 Tryz.f36 (by kernel_rfl) rfl (by kernel_rfl) [.c (.ptr 0 0)] [.cells 72 [.ptr 1 0, .vec 2], .cells 111 [.vec 3, .vec 4, .vec 5, .vec 6], .vec false .call, .vec false .zone, .vec false .vol, .vec false .snap, .vec false .done] true (fun t u => .coll ⟨.vol, Z260 u.2.2.1 u.2.2.2.1 u.2.2.2.2.1 u.2.2.2.2.2.1 u.2.2.2.2.2.2.1⟩) (fun t u => HPL.enc _ u) (fun t u => [u.2.2.2.1.length ≤ 1000, u.2.2.2.2.1.length ≤ 1000, u.2.2.2.2.2.1.length ≤ 1000, u.2.2.2.2.2.2.1.length ≤ 1000, ∀ v ∈ u.2.2.2.2.1, v.nodes.length ≤ 1000])
 (fun _ _ _ => rfl) (fun t u => by kernel_rfl) (fun t u => by kernel_rfl) (fun t u h => Z27f u.2.2.1 u.2.2.2.1 u.2.2.2.2.1 u.2.2.2.2.2.1 u.2.2.2.2.2.2.1 (h _ mS) (h _ (mN mS)) (h _ (mN (mN mS))) (h _ (mN (mN (mN mS)))) (h _ (mN (mN (mN (mN mS))))))
noncomputable def Z296 : Env := Z65 (P := Tryz.prog) [rD_Snaps_2_fact] [] [] ckf true
def Z263 (b2 : LK) (b3 : LZ) (b4 : LV) (b5 : LS) (b6 : LQ) : LS :=
 Z26d b3 b4 b5 b6
def Z279 (b2 : LK) (b3 : LZ) (b4 : LV) (b5 : LS) (b6 : LQ) : RT :=
 (.ask false
   .fail
   (.need [b3.length ≤ 1000, b4.length ≤ 1000, b5.length ≤ 1000, b6.length ≤ 1000, ∀ v ∈ b4, v.nodes.length ≤ 1000]
     (.leaf .ret ⟨Za 10 [(2, .coll ⟨.snap, Z26d b3 b4 b5 b6⟩)], (.cells 72 [.ptr 1 0, .vec 2] :: .cells 111 [.vec 3, .vec 4, .vec 5, .vec 6] :: .vec false ⟨.call, b2⟩ :: oV b3 b4 b5 b6 [])⟩ [])))
theorem Z287 (b2 : LK) (b3 : LZ) (b4 : LV) (b5 : LS) (b6 : LQ) (hp0 : b3.length ≤ 1000) (hp1 : b4.length ≤ 1000) (hp2 : b5.length ≤ 1000) (hp3 : b6.length ≤ 1000) (hp4 : ∀ v ∈ b4, v.nodes.length ≤ 1000) : Tr Tryz.prog 7 (Z3c Tryz.f37) (Z27 Tryz.f37 [.ptr 0 0] (.cells 72 [.ptr 1 0, .vec 2] :: .cells 111 [.vec 3, .vec 4, .vec 5, .vec 6] :: .vec false ⟨.call, b2⟩ :: oV b3 b4 b5 b6 [])) (Z48 Tryz.prog Tryz.f37 (.coll ⟨.snap, Z263 b2 b3 b4 b5 b6⟩) (.cells 72 [.ptr 1 0, .vec 2] :: .cells 111 [.vec 3, .vec 4, .vec 5, .vec 6] :: .vec false ⟨.call, b2⟩ :: oV b3 b4 b5 b6 [])) := by
 refine Z2f (kok _ _ _ _ _ _) (E := Z296) (L := Z32) 60 9999 Z14.none (Z279 b2 b3 b4 b5 b6) (by kernel_rfl) (by kernel_rfl) (by kernel_rfl) ?_
 unfold Z279
 refine ⟨fun h0 => ?_, fun h0 => ?_⟩
 · exact absurd h0 (by simp)
 · refine ⟨(by (iterate 5 refine Z2 (by assumption) ?_); exact Z9), ?_⟩
   have hF : Z263 b2 b3 b4 b5 b6 = (Z26d b3 b4 b5 b6) := by first | exact rfl | simp only [Z263, h0, cond_true, cond_false]
   exact ⟨trivial, .inl (by (try rw [hF]); kernel_rfl), by (try rw [hF]); kernel_rfl⟩
noncomputable def Z283 : Fact Tryz.prog := Z4b 37 Tryz.f37 (by kernel_rfl) rfl (by kernel_rfl) [.c (.ptr 0 0)] [.cells 72 [.ptr 1 0, .vec 2], .cells 111 [.vec 3, .vec 4, .vec 5, .vec 6], .vec false .call, .vec false .zone, .vec false .vol, .vec false .snap, .vec false .done] true (fun t u => .coll ⟨.snap, Z263 u.2.2.1 u.2.2.2.1 u.2.2.2.2.1 u.2.2.2.2.2.1 u.2.2.2.2.2.2.1⟩) (fun t u => HPL.enc _ u) (fun t u => [u.2.2.2.1.length ≤ 1000, u.2.2.2.2.1.length ≤ 1000, u.2.2.2.2.2.1.length ≤ 1000, u.2.2.2.2.2.2.1.length ≤ 1000, ∀ v ∈ u.2.2.2.2.1, v.nodes.length ≤ 1000])
 (fun _ _ _ => rfl) (fun t u => by kernel_rfl) (fun t u => by kernel_rfl) (fun t u h => Z287 u.2.2.1 u.2.2.2.1 u.2.2.2.2.1 u.2.2.2.2.2.1 u.2.2.2.2.2.2.1 (h _ mS) (h _ (mN mS)) (h _ (mN (mN mS))) (h _ (mN (mN (mN mS)))) (h _ (mN (mN (mN (mN mS))))))
noncomputable def E_r11_New : Env := Z65 (P := Tryz.prog) [r10_NewA_fact] [] [] ckf true
def Zb (a0 : LZ) : LK × LZ × LV × LS × LQ :=
 ([], (Z38 a0).2.1, (Z38 a0).2.2.1, (Z38 a0).2.2.2.1, (Z38 a0).2.2.2.2)
def r11_NewR (a0 : LZ) : RT :=
 (.need [a0.length < 4611686018427387904, ∀ z ∈ a0, z.name.size < 4611686018427387904, (Z38 a0).1 = true]
   (.ask false
     .fail
     (.leaf .ret ⟨Za 11 [(2, .ptr 0 0)], (.cells 72 [.ptr 1 0, .nils] :: .cells 111 [.vec 2, .vec 3, .vec 4, .vec 5] :: oV ((Z38 a0).2.1) ((Z38 a0).2.2.1) ((Z38 a0).2.2.2.1) ((Z38 a0).2.2.2.2) [])⟩ [5, 0, 1, 2, 3, 4])))
theorem r11_NewF_tr (a0 : LZ) (hp0 : a0.length < 4611686018427387904) (hp1 : ∀ z ∈ a0, z.name.size < 4611686018427387904) (hp2 : (Z38 a0).1 = true) : Tr Tryz.prog 0 (Z3c Tryz.f18) (Z27 Tryz.f18 [.coll ⟨.zone, a0⟩] []) (Z48 Tryz.prog Tryz.f18 (.ptr 0 0) (.cells 72 [.ptr 1 0, .vec 2] :: .cells 111 [.vec 3, .vec 4, .vec 5, .vec 6] :: .vec false ⟨.call, (Zb a0).1⟩ :: oV ((Zb a0).2.1) ((Zb a0).2.2.1) ((Zb a0).2.2.2.1) ((Zb a0).2.2.2.2) [])) := by
 refine Tr.post ?_
 refine Z2f (kok _ _ _ _ _ _) (E := E_r11_New) (L := Z32) 60 9999 Z14.none (r11_NewR a0) (by kernel_rfl) (by kernel_rfl) (by kernel_rfl) ?_
 unfold r11_NewR
 refine ⟨(by (iterate 3 refine Z2 (by assumption) ?_); exact Z9), ?_⟩
 refine ⟨fun h0 => ?_, fun h0 => ?_⟩
 · exact absurd h0 (by simp)
 · have hF : Zb a0 = ([], (Z38 a0).2.1, (Z38 a0).2.2.1, (Z38 a0).2.2.2.1, (Z38 a0).2.2.2.2) := by first | exact rfl | simp only [Zb, h0, cond_true, cond_false]
   exact ⟨_, (Turn.ownNil 0 1 6 .call rfl rfl (by simp [hset, oM, oV])).trans (Turn.fits (p := ⟨Za 11 [(2, .ptr 0 0)], (.cells 72 [.ptr 1 0, .vec 2] :: .cells 111 [.vec 3, .vec 4, .vec 5, .vec 6] :: .vec false ⟨.call, []⟩ :: oV ((Z38 a0).2.1) ((Z38 a0).2.2.1) ((Z38 a0).2.2.2.1) ((Z38 a0).2.2.2.2) [])⟩) [0, 1, 6, 2, 3, 4, 5] (by kernel_rfl) (by kernel_rfl) (by kernel_rfl) (by kernel_rfl)), trivial, .inl (by (try rw [hF]); kernel_rfl), by (try rw [hF]); kernel_rfl⟩
noncomputable def r11_New_fact : Fact Tryz.prog := Z4b 18 Tryz.f18 (by kernel_rfl) rfl (by kernel_rfl) [.c (.coll .zone)] [] false (fun t u => .ptr 0 0) (fun t u => (.cells 72 [.ptr 1 0, .vec 2] :: .cells 111 [.vec 3, .vec 4, .vec 5, .vec 6] :: .vec false ⟨.call, (Zb t.1).1⟩ :: oV ((Zb t.1).2.1) ((Zb t.1).2.2.1) ((Zb t.1).2.2.2.1) ((Zb t.1).2.2.2.2) [])) (fun t u => [t.1.length < 4611686018427387904, ∀ z ∈ t.1, z.name.size < 4611686018427387904, (Z38 t.1).1 = true])
 (nofun) (fun t u => by kernel_rfl) (fun t u => by kernel_rfl) (fun t u h => r11_NewF_tr t.1 (h _ mS) (h _ (mN mS)) (h _ (mN (mN mS))))
noncomputable def E_r11_Same : Env := Z65 (P := Tryz.prog) [] [] [] ckf
def Z266 (a1 : LK) : LK → Nat → Bool
 | [], i => false
 | o :: r, i => cond (!(((o.verb) == ((a1.getD i default).verb)) && ((decide ((o.target) = ((a1.getD i default).target))) && (((o.num) == ((a1.getD i default).num)) && (((o.size) == ((a1.getD i default).size)) && ((decide ((o.zone) = ((a1.getD i default).zone))) && ((decide ((o.node) = ((a1.getD i default).node))) && (decide ((o.source) = ((a1.getD i default).source))))))))))
  true
  (Z266 a1 r (i + 1))
def Z278 (a0 : LK) (a1 : LK) (i : Nat) : St :=
 ⟨Za 26 [(0, .coll ⟨.call, a0⟩), (1, .coll ⟨.call, a1⟩), (5, .int .i64 (i : Int))], []⟩
def Z299 (a0 : LK) (a1 : LK) (i : Nat) : RT :=
 (.ask (decide ((i : Int) < (a0.length : Int)))
   (.need [0 ≤ (i : Int) ∧ (i : Int) < (a0.length : Int), 0 ≤ (i : Int) ∧ (i : Int) < (a1.length : Int)]
     (.ask (!((((a0.getD i default).verb) == ((a1.getD i default).verb)) && ((decide (((a0.getD i default).target) = ((a1.getD i default).target))) && ((((a0.getD i default).num) == ((a1.getD i default).num)) && ((((a0.getD i default).size) == ((a1.getD i default).size)) && ((decide (((a0.getD i default).zone) = ((a1.getD i default).zone))) && ((decide (((a0.getD i default).node) = ((a1.getD i default).node))) && (decide (((a0.getD i default).source) = ((a1.getD i default).source))))))))))
       (.leaf .ret ⟨Za 26 [(4, .bool false)], []⟩ [])
       (.leaf .normal ⟨Za 26 [(0, .coll ⟨.call, a0⟩), (1, .coll ⟨.call, a1⟩), (5, .int .i64 (IntKind.i64.wrap ((i : Int) + (1 : Int))))], []⟩ [])))
   (.leaf (.exit 0) ⟨Za 26 [], []⟩ []))
def Z26f (a0 : LK) (a1 : LK) (i : Nat) : Tree :=
 .ask (Z266 a1 (a0.drop i) i) (.leaf .ret ⟨Za 26 [(4, .bool false)], []⟩) (.leaf (.exit 0) ⟨Za 26 [], []⟩)
theorem r11_SameL_loop (a0 : LK) (a1 : LK) (hp0 : a0.length ≤ 1000000) (hlen : a0.length < 4611686018427387904) (hn0 : a0.length = a1.length) (z : { z : Nat // z ≤ a0.length }) (Q : Exit → St → Prop) (h : (Z26f a0 a1 z.1).All Q) : Tr Tryz.prog 0 (.loop (Z47 Tryz.f35 0)) (Z278 a0 a1 z.1) Q := by
 refine Z60 (kok _ _ _ _ _ _) (E := E_r11_Same) (ι := { z : Nat // z ≤ a0.length }) 60 0 (fun _ => Z32) (fun z => Z278 a0 a1 z.1) (fun z => Z26f a0 a1 z.1) (fun z => Z299 a0 a1 z.1) (fun z => a0.length - z.1) (fun _ => Z14.none) (fun z => by obtain ⟨i, hi⟩ := z; kernel_rfl) (fun z => by obtain ⟨i, hi⟩ := z; kernel_rfl) (fun z => by obtain ⟨i, hi⟩ := z; kernel_rfl) ?_ z Q h
 rintro ⟨i, hi⟩ Q hT
 replace hT : (Z26f a0 a1 i).All Q := hT
 replace hi : i ≤ a0.length := hi
 show (Z299 a0 a1 i).All _
 unfold Z299
 refine ⟨fun h0 => ?_, fun h0 => ?_⟩
 · have hlt : i < a0.length := by simpa using h0
   have hd := Z64 hlt
   have hw := Z4e (i := i) (by omega)
   refine ⟨(by (iterate 2 refine Z2 (by first | assumption | omega | ((try intro _); (try simp only [decide_eq_true_eq, decide_eq_false_iff_not, Bool.cond_false_right, Bool.cond_true_right, Bool.cond_true_left, Bool.cond_false_left, Bool.and_eq_true, Bool.or_eq_true, Bool.not_eq_true', Z18, maxLen, List.length_cons, List.length_nil, List.length_append, Z44] at *); omega)) ?_); exact Z9), ?_⟩
   refine ⟨fun h1 => ?_, fun h1 => ?_⟩
   · have hF : Z266 a1 (a0.drop i) i = true := by rw [hd]; first | exact (Z12 h1 rfl) | simp only [Z266, h0, h1, cond_true, cond_false]
     unfold Z26f at hT
     rw [hF] at hT
     exact hT.1 rfl
   · have hF : Z266 a1 (a0.drop i) i = Z266 a1 (a0.drop (i + 1)) (i + 1) := by rw [hd]; first | exact (Z3 h1 rfl) | simp only [Z266, h0, h1, cond_true, cond_false]
     refine ⟨⟨(i + 1), by show (i + 1) ≤ a0.length; omega⟩, by show a0.length - (i + 1) < a0.length - i; omega, ?_, ?_⟩
     · show _ = Z278 a0 a1 (i + 1)
       unfold Z278
       simp only [hw]
     · show (Z26f a0 a1 (i + 1)).All Q
       unfold Z26f at hT ⊢
       rw [hF] at hT
       exact hT
 · have hge : ¬ i < a0.length := by simpa using h0
   have hd : a0.drop i = [] := List.drop_eq_nil_of_le (by omega)
   have hF : Z266 a1 (a0.drop i) i = false := by rw [hd]; first | exact rfl | simp only [Z266, h0, cond_true, cond_false]
   unfold Z26f at hT
   rw [hF] at hT
   exact hT.2 rfl
def Z261 (a0 : LK) (a1 : LK) : Bool :=
 cond (!((a0.length : Int) == (a1.length : Int)))
  false
  (cond (Z266 a1 a0 0)
    false
    true)
def r11_SameR (a0 : LK) (a1 : LK) : RT :=
 (.ask (!((a0.length : Int) == (a1.length : Int)))
   (.leaf .ret ⟨Za 26 [(4, .bool false)], []⟩ [])
   (.need [a0.length = a1.length]
     (.ask (Z266 a1 a0 0)
       (.leaf .ret ⟨Za 26 [(4, .bool false)], []⟩ [])
       (.leaf .ret ⟨Za 26 [(4, .bool true)], []⟩ []))))
theorem r11_SameF_tr (a0 : LK) (a1 : LK) (hp0 : a0.length ≤ 1000000) : Tr Tryz.prog 0 (Z3c Tryz.f35) (Z27 Tryz.f35 [.coll ⟨.call, a0⟩, .coll ⟨.call, a1⟩] []) (Z48 Tryz.prog Tryz.f35 (.bool (Z261 a0 a1)) []) := by
 refine Z2f (kok _ _ _ _ _ _) (E := E_r11_Same) (L := (Z5f [(0, Z278 a0 a1 0, [], .need [a0.length = a1.length] (Z26f a0 a1 0))])) 60 9999 (Z14.one (g := Z47 Tryz.f35 0) (b := 0) (by kernel_rfl) (by kernel_rfl) (by kernel_rfl) (by kernel_rfl) (fun Q h => r11_SameL_loop a0 a1 hp0 (by omega) (h.1 _ mS) ⟨0, by first | exact Nat.zero_le _ | (show 0 ≤ a0.length; omega) | (show 0 ≤ a0.length; exact ⟨Nat.zero_le _, by assumption⟩) | (show 0 ≤ a0.length; simp)⟩ Q h.2)) (r11_SameR a0 a1) (by kernel_rfl) (by kernel_rfl) (by kernel_rfl) ?_
 unfold r11_SameR
 refine ⟨fun h0 => ?_, fun h0 => ?_⟩
 · have hF : Z261 a0 a1 = false := by first | exact (Z12 h0 rfl) | simp only [Z261, h0, cond_true, cond_false]
   exact ⟨trivial, .inl (by (try rw [hF]); kernel_rfl), by (try rw [hF]); kernel_rfl⟩
 · refine ⟨Z2 (by have h9 := h0; simp only [Bool.not_eq_false', decide_eq_true_eq, beq_iff_eq] at h9; omega) (Z9), ?_⟩
   refine ⟨fun h1 => ?_, fun h1 => ?_⟩
   · have hF : Z261 a0 a1 = false := by first | exact (Z3 h0 (Z12 h1 rfl)) | simp only [Z261, h0, h1, cond_true, cond_false]
     exact ⟨trivial, .inl (by (try rw [hF]); kernel_rfl), by (try rw [hF]); kernel_rfl⟩
   · have hF : Z261 a0 a1 = true := by first | exact (Z3 h0 (Z3 h1 rfl)) | simp only [Z261, h0, h1, cond_true, cond_false]
     exact ⟨trivial, .inl (by (try rw [hF]); kernel_rfl), by (try rw [hF]); kernel_rfl⟩
noncomputable def r11_Same_fact : Fact Tryz.prog := Z4b 35 Tryz.f35 (by kernel_rfl) rfl (by kernel_rfl) [.c (.coll .call), .c (.coll .call)] [] true (fun t u => .bool (Z261 t.1 t.2.1)) (fun t u => []) (fun t u => [t.1.length ≤ 1000000])
 (fun _ _ _ => rfl) (fun t u => by kernel_rfl) (fun t u => by kernel_rfl) (fun t u h => r11_SameF_tr t.1 t.2.1 (h _ mS))
end Go.Proofs.YtkledlcmhbjadaaGreat
