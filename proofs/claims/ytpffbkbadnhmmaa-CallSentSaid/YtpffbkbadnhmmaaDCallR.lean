/- The document's client: its methods. -/
import Derived.Test.YtpffbkbadnhmmaaDRDo
import Derived.Test.YtpffbkbadnhmmaaDRTell
import Derived.Test.YtpffbkbadnhmmaaDRNew
import Derived.Test.YtpffbkbadnhmmaaDRGets
import Derived.Test.YtpffbkbadnhmmaaDH3
set_option linter.unusedVariables false
set_option linter.unusedSimpArgs false
set_option maxRecDepth 100000
namespace Go.Proofs.Ytpffbkbadnhmmaa
open Go Go.Eng
noncomputable def E_r11_Client_Send : Env := envOf (P := Try.prog) [Z11d, rD_Do_fact] [] [] ckf true
def Z13 (a1 : XCall) (a2 : Int) (b2 : LK) (b3 : LZ) (b4 : LV) (b5 : LS) (b6 : LQ) : XRes × LK × LZ × LV × LS × LQ :=
 cond (cond (!(Z3a a1)) true (decide (a2 > (3 : Int))))
   ((⟨(2 : Int), (0 : Int), (⟨#[]⟩ : BA), (0 : Int)⟩ : XRes), b2, b3, b4, b5, b6)
   (cond (decide ((b2.length : Int) ≥ (4096 : Int)))
     ((⟨(7 : Int), (0 : Int), (⟨#[]⟩ : BA), (0 : Int)⟩ : XRes), b2, b3, b4, b5, b6)
     (cond (a2 == (0 : Int))
       (((Z28 a1 b3 b4 b5 b6).1), (([] ++ b2) ++ [a1]), (Z28 a1 b3 b4 b5 b6).2.1, (Z28 a1 b3 b4 b5 b6).2.2.1, (Z28 a1 b3 b4 b5 b6).2.2.2.1, (Z28 a1 b3 b4 b5 b6).2.2.2.2)
       (cond (a2 == (1 : Int))
         ((⟨(10 : Int), (0 : Int), (⟨#[]⟩ : BA), (0 : Int)⟩ : XRes), (([] ++ b2) ++ [a1]), b3, b4, b5, b6)
         (cond (a2 == (2 : Int))
           ((⟨(13 : Int), (0 : Int), (⟨#[]⟩ : BA), (0 : Int)⟩ : XRes), (([] ++ b2) ++ [a1]), (Z28 a1 b3 b4 b5 b6).2.1, (Z28 a1 b3 b4 b5 b6).2.2.1, (Z28 a1 b3 b4 b5 b6).2.2.2.1, (Z28 a1 b3 b4 b5 b6).2.2.2.2)
           ((⟨(13 : Int), (0 : Int), (⟨#[]⟩ : BA), (0 : Int)⟩ : XRes), (([] ++ b2) ++ [a1]), b3, b4, b5, b6)))))
def Ze6 (a1 : XCall) (a2 : Int) (b2 : LK) (b3 : LZ) (b4 : LV) (b5 : LS) (b6 : LQ) : RT :=
 (.ask false
   .fail
   (.need [CS a1]
     (.ask (cond (!(Z3a a1)) true (decide (a2 > (3 : Int))))
       (.leaf .ret ⟨slots 61 [(6, .ptr 7 0)], (.cells 160 [.ptr 1 0, .vec 2] :: .cells 106 [.vec 3, .vec 4, .vec 5, .vec 6] :: .vec false ⟨.call, b2⟩ :: oV b3 b4 b5 b6 [.cells 52 [.int .i64 2, .int .i64 0, .str (⟨#[]⟩ : BA), .int .u64 0]])⟩ [0, 1, 2, 3, 4, 5, 6, 8])
       (.ask (decide ((b2.length : Int) ≥ (4096 : Int)))
         (.leaf .ret ⟨slots 61 [(6, .ptr 7 0)], (.cells 160 [.ptr 1 0, .vec 2] :: .cells 106 [.vec 3, .vec 4, .vec 5, .vec 6] :: .vec false ⟨.call, b2⟩ :: oV b3 b4 b5 b6 [.cells 52 [.int .i64 7, .int .i64 0, .str (⟨#[]⟩ : BA), .int .u64 0]])⟩ [0, 1, 2, 3, 4, 5, 6, 8])
         (.need [(([] : LK).length + b2.length) * 88 ≤ bytesLim ∧ ([] : LK).length + b2.length ≤ maxLen, (([] ++ b2).length + [a1].length) * 88 ≤ bytesLim ∧ ([] ++ b2).length + [a1].length ≤ maxLen]
           (.ask (a2 == (0 : Int))
             (.need [b3.length ≤ 1000, b4.length ≤ 1000, b5.length ≤ 1000, b6.length ≤ 1000, ∀ v ∈ b4, v.nodes.length ≤ 1000, ∀ v ∈ b4, ZHas b3 v.zone, CS a1]
               (.leaf .ret ⟨slots 61 [(6, .ptr 7 0)], (.cells 160 [.ptr 1 0, .vec 8] :: .cells 106 [.vec 9, .vec 10, .vec 11, .vec 12] :: .vec false ⟨.call, b2⟩ :: .dead :: .dead :: .dead :: .dead :: .cells 52 [.int .i64 (((Z28 a1 b3 b4 b5 b6).1).err), .int .i64 (((Z28 a1 b3 b4 b5 b6).1).size), .str (((Z28 a1 b3 b4 b5 b6).1).zone), .int .u64 (((Z28 a1 b3 b4 b5 b6).1).tag)] :: .vec false ⟨.call, (([] ++ b2) ++ [a1])⟩ :: oV ((Z28 a1 b3 b4 b5 b6).2.1) ((Z28 a1 b3 b4 b5 b6).2.2.1) ((Z28 a1 b3 b4 b5 b6).2.2.2.1) ((Z28 a1 b3 b4 b5 b6).2.2.2.2) [])⟩ [0, 1, 2, 3, 4, 5, 6, 8, 12, 13, 14, 15, 16]))
             (.ask (a2 == (1 : Int))
               (.leaf .ret ⟨slots 61 [(6, .ptr 7 0)], (.cells 160 [.ptr 1 0, .vec 8] :: .cells 106 [.vec 3, .vec 4, .vec 5, .vec 6] :: .vec false ⟨.call, b2⟩ :: oV b3 b4 b5 b6 [.cells 52 [.int .i64 10, .int .i64 0, .str (⟨#[]⟩ : BA), .int .u64 0], .vec false ⟨.call, (([] ++ b2) ++ [a1])⟩])⟩ [0, 1, 2, 3, 4, 5, 6, 8, 12])
               (.ask (a2 == (2 : Int))
                 (.need [b3.length ≤ 1000, b4.length ≤ 1000, b5.length ≤ 1000, b6.length ≤ 1000, ∀ v ∈ b4, v.nodes.length ≤ 1000, ∀ v ∈ b4, ZHas b3 v.zone, CS a1]
                   (.leaf .ret ⟨slots 61 [(6, .ptr 7 0)], (.cells 160 [.ptr 1 0, .vec 8] :: .cells 106 [.vec 9, .vec 10, .vec 11, .vec 12] :: .vec false ⟨.call, b2⟩ :: .dead :: .dead :: .dead :: .dead :: .cells 52 [.int .i64 13, .int .i64 0, .str (⟨#[]⟩ : BA), .int .u64 0] :: .vec false ⟨.call, (([] ++ b2) ++ [a1])⟩ :: oV ((Z28 a1 b3 b4 b5 b6).2.1) ((Z28 a1 b3 b4 b5 b6).2.2.1) ((Z28 a1 b3 b4 b5 b6).2.2.2.1) ((Z28 a1 b3 b4 b5 b6).2.2.2.2) [])⟩ [0, 1, 2, 3, 4, 5, 6, 8, 12, 13, 14, 15, 16]))
                 (.leaf .ret ⟨slots 61 [(6, .ptr 7 0)], (.cells 160 [.ptr 1 0, .vec 8] :: .cells 106 [.vec 3, .vec 4, .vec 5, .vec 6] :: .vec false ⟨.call, b2⟩ :: oV b3 b4 b5 b6 [.cells 52 [.int .i64 13, .int .i64 0, .str (⟨#[]⟩ : BA), .int .u64 0], .vec false ⟨.call, (([] ++ b2) ++ [a1])⟩])⟩ [0, 1, 2, 3, 4, 5, 6, 8, 12])))))))))
theorem Z126 (a1 : XCall) (a2 : Int) (b2 : LK) (b3 : LZ) (b4 : LV) (b5 : LS) (b6 : LQ) (hp0 : CS a1) (hp1 : b3.length ≤ 1000) (hp2 : b4.length ≤ 1000) (hp3 : b5.length ≤ 1000) (hp4 : b6.length ≤ 1000) (hp5 : ∀ v ∈ b4, v.nodes.length ≤ 1000) (hp6 : ∀ v ∈ b4, ZHas b3 v.zone) : Tr Try.prog 7 (bodyOf Try.f100) (fnBegins Try.f100 [.ptr 0 0, .agg (cc a1), .int .u8 a2] (.cells 160 [.ptr 1 0, .vec 2] :: .cells 106 [.vec 3, .vec 4, .vec 5, .vec 6] :: .vec false ⟨.call, b2⟩ :: oV b3 b4 b5 b6 [])) (fnEnds Try.prog Try.f100 (.agg [.int .i64 (((Z13 a1 a2 b2 b3 b4 b5 b6).1).err), .int .i64 (((Z13 a1 a2 b2 b3 b4 b5 b6).1).size), .str (((Z13 a1 a2 b2 b3 b4 b5 b6).1).zone), .int .u64 (((Z13 a1 a2 b2 b3 b4 b5 b6).1).tag)]) (.cells 160 [.ptr 1 0, .vec 7] :: .cells 106 [.vec 8, .vec 9, .vec 10, .vec 11] :: .dead :: .dead :: .dead :: .dead :: .dead :: .vec false ⟨.call, (Z13 a1 a2 b2 b3 b4 b5 b6).2.1⟩ :: oV ((Z13 a1 a2 b2 b3 b4 b5 b6).2.2.1) ((Z13 a1 a2 b2 b3 b4 b5 b6).2.2.2.1) ((Z13 a1 a2 b2 b3 b4 b5 b6).2.2.2.2.1) ((Z13 a1 a2 b2 b3 b4 b5 b6).2.2.2.2.2) [])) := by
 refine Tr.post ?_
 refine Tr_tree (kok _ _ _ _ _ _) (E := E_r11_Client_Send) (L := noLoops) 60 9999 Z11.none (Ze6 a1 a2 b2 b3 b4 b5 b6) (by kernel_rfl) (by kernel_rfl) (by kernel_rfl) ?_
 unfold Ze6
 refine ⟨fun h0 => ?_, fun h0 => ?_⟩
 · exact absurd h0 (by simp)
 · refine ⟨Z5 (by (try refine fun (_ : _ = _) => ?_); (try refine fun (_ : _ ∧ _) => ?_); assumption) (Z9), ?_⟩
   refine ⟨fun h1 => ?_, fun h1 => ?_⟩
   · have hF : Z13 a1 a2 b2 b3 b4 b5 b6 = ((⟨(2 : Int), (0 : Int), (⟨#[]⟩ : BA), (0 : Int)⟩ : XRes), b2, b3, b4, b5, b6) := by first | exact (Z14 h1 rfl) | simp only [Z13, h0, h1, cond_true, cond_false]
     exact ⟨_, (((((Turn.moveC 0 1 2 8 rfl rfl rfl (by simp [hset, oM, oV])).trans (Turn.moveC 1 0 3 9 rfl rfl rfl (by simp [hset, oM, oV]))).trans (Turn.moveC 1 1 4 10 rfl rfl rfl (by simp [hset, oM, oV]))).trans (Turn.moveC 1 2 5 11 rfl rfl rfl (by simp [hset, oM, oV]))).trans (Turn.moveC 1 3 6 12 rfl rfl rfl (by simp [hset, oM, oV]))).trans (Turn.fits (p := ⟨slots 61 [(6, .ptr 12 0)], (.cells 160 [.ptr 1 0, .vec 7] :: .cells 106 [.vec 8, .vec 9, .vec 10, .vec 11] :: .dead :: .dead :: .dead :: .dead :: .dead :: .vec false ⟨.call, b2⟩ :: oV b3 b4 b5 b6 [.cells 52 [.int .i64 2, .int .i64 0, .str (⟨#[]⟩ : BA), .int .u64 0]])⟩) [0, 1, 2, 3, 4, 5, 6, 8, 9, 10, 11, 12, 7] (by kernel_rfl) (by kernel_rfl) (by kernel_rfl) (by kernel_rfl)), trivial, .inl (by (try rw [hF]); kernel_rfl), by (try rw [hF]); kernel_rfl⟩
   · refine ⟨fun h2 => ?_, fun h2 => ?_⟩
     · have hF : Z13 a1 a2 b2 b3 b4 b5 b6 = ((⟨(7 : Int), (0 : Int), (⟨#[]⟩ : BA), (0 : Int)⟩ : XRes), b2, b3, b4, b5, b6) := by first | exact (Z7 h1 (Z14 h2 rfl)) | simp only [Z13, h0, h1, h2, cond_true, cond_false]
       exact ⟨_, (((((Turn.moveC 0 1 2 8 rfl rfl rfl (by simp [hset, oM, oV])).trans (Turn.moveC 1 0 3 9 rfl rfl rfl (by simp [hset, oM, oV]))).trans (Turn.moveC 1 1 4 10 rfl rfl rfl (by simp [hset, oM, oV]))).trans (Turn.moveC 1 2 5 11 rfl rfl rfl (by simp [hset, oM, oV]))).trans (Turn.moveC 1 3 6 12 rfl rfl rfl (by simp [hset, oM, oV]))).trans (Turn.fits (p := ⟨slots 61 [(6, .ptr 12 0)], (.cells 160 [.ptr 1 0, .vec 7] :: .cells 106 [.vec 8, .vec 9, .vec 10, .vec 11] :: .dead :: .dead :: .dead :: .dead :: .dead :: .vec false ⟨.call, b2⟩ :: oV b3 b4 b5 b6 [.cells 52 [.int .i64 7, .int .i64 0, .str (⟨#[]⟩ : BA), .int .u64 0]])⟩) [0, 1, 2, 3, 4, 5, 6, 8, 9, 10, 11, 12, 7] (by kernel_rfl) (by kernel_rfl) (by kernel_rfl) (by kernel_rfl)), trivial, .inl (by (try rw [hF]); kernel_rfl), by (try rw [hF]); kernel_rfl⟩
     · refine ⟨(by (iterate 2 refine Z5 (by (try refine fun (_ : _ = _) => ?_); (try refine fun (_ : _ ∧ _) => ?_); (simp only [decide_eq_false_iff_not] at *); unfold bytesLim maxLen; (try simp only [List.length_append, List.length_cons, List.length_nil]); omega) ?_); exact Z9), ?_⟩
       refine ⟨fun h3 => ?_, fun h3 => ?_⟩
       · refine ⟨(by (iterate 7 refine Z5 (by (try refine fun (_ : _ = _) => ?_); (try refine fun (_ : _ ∧ _) => ?_); assumption) ?_); exact Z9), ?_⟩
         have hF : Z13 a1 a2 b2 b3 b4 b5 b6 = (((Z28 a1 b3 b4 b5 b6).1), (([] ++ b2) ++ [a1]), (Z28 a1 b3 b4 b5 b6).2.1, (Z28 a1 b3 b4 b5 b6).2.2.1, (Z28 a1 b3 b4 b5 b6).2.2.2.1, (Z28 a1 b3 b4 b5 b6).2.2.2.2) := by first | exact (Z7 h1 (Z7 h2 (Z14 h3 rfl))) | simp only [Z13, h0, h1, h2, h3, cond_true, cond_false]
         exact ⟨_, (((((Turn.moveC 0 1 8 13 rfl rfl rfl (by simp [hset, oM, oV])).trans (Turn.moveC 1 0 9 14 rfl rfl rfl (by simp [hset, oM, oV]))).trans (Turn.moveC 1 1 10 15 rfl rfl rfl (by simp [hset, oM, oV]))).trans (Turn.moveC 1 2 11 16 rfl rfl rfl (by simp [hset, oM, oV]))).trans (Turn.moveC 1 3 12 17 rfl rfl rfl (by simp [hset, oM, oV]))).trans (Turn.fits (p := ⟨slots 61 [(6, .ptr 12 0)], (.cells 160 [.ptr 1 0, .vec 7] :: .cells 106 [.vec 8, .vec 9, .vec 10, .vec 11] :: .dead :: .dead :: .dead :: .dead :: .dead :: .vec false ⟨.call, (([] ++ b2) ++ [a1])⟩ :: oV ((Z28 a1 b3 b4 b5 b6).2.1) ((Z28 a1 b3 b4 b5 b6).2.2.1) ((Z28 a1 b3 b4 b5 b6).2.2.2.1) ((Z28 a1 b3 b4 b5 b6).2.2.2.2) [.cells 52 [.int .i64 (((Z28 a1 b3 b4 b5 b6).1).err), .int .i64 (((Z28 a1 b3 b4 b5 b6).1).size), .str (((Z28 a1 b3 b4 b5 b6).1).zone), .int .u64 (((Z28 a1 b3 b4 b5 b6).1).tag)]])⟩) [0, 1, 2, 3, 4, 5, 6, 13, 14, 15, 16, 17, 7] (by kernel_rfl) (by kernel_rfl) (by kernel_rfl) (by kernel_rfl)), trivial, .inl (by (try rw [hF]); kernel_rfl), by (try rw [hF]); kernel_rfl⟩
       · refine ⟨fun h4 => ?_, fun h4 => ?_⟩
         · have hF : Z13 a1 a2 b2 b3 b4 b5 b6 = ((⟨(10 : Int), (0 : Int), (⟨#[]⟩ : BA), (0 : Int)⟩ : XRes), (([] ++ b2) ++ [a1]), b3, b4, b5, b6) := by first | exact (Z7 h1 (Z7 h2 (Z7 h3 (Z14 h4 rfl)))) | simp only [Z13, h0, h1, h2, h3, h4, cond_true, cond_false]
           exact ⟨_, (((((Turn.moveC 0 1 8 9 rfl rfl rfl (by simp [hset, oM, oV])).trans (Turn.moveC 1 0 3 10 rfl rfl rfl (by simp [hset, oM, oV]))).trans (Turn.moveC 1 1 4 11 rfl rfl rfl (by simp [hset, oM, oV]))).trans (Turn.moveC 1 2 5 12 rfl rfl rfl (by simp [hset, oM, oV]))).trans (Turn.moveC 1 3 6 13 rfl rfl rfl (by simp [hset, oM, oV]))).trans (Turn.fits (p := ⟨slots 61 [(6, .ptr 12 0)], (.cells 160 [.ptr 1 0, .vec 7] :: .cells 106 [.vec 8, .vec 9, .vec 10, .vec 11] :: .dead :: .dead :: .dead :: .dead :: .dead :: .vec false ⟨.call, (([] ++ b2) ++ [a1])⟩ :: oV b3 b4 b5 b6 [.cells 52 [.int .i64 10, .int .i64 0, .str (⟨#[]⟩ : BA), .int .u64 0]])⟩) [0, 1, 2, 3, 4, 5, 6, 9, 10, 11, 12, 13, 7] (by kernel_rfl) (by kernel_rfl) (by kernel_rfl) (by kernel_rfl)), trivial, .inl (by (try rw [hF]); kernel_rfl), by (try rw [hF]); kernel_rfl⟩
         · refine ⟨fun h5 => ?_, fun h5 => ?_⟩
           · refine ⟨(by (iterate 7 refine Z5 (by (try refine fun (_ : _ = _) => ?_); (try refine fun (_ : _ ∧ _) => ?_); assumption) ?_); exact Z9), ?_⟩
             have hF : Z13 a1 a2 b2 b3 b4 b5 b6 = ((⟨(13 : Int), (0 : Int), (⟨#[]⟩ : BA), (0 : Int)⟩ : XRes), (([] ++ b2) ++ [a1]), (Z28 a1 b3 b4 b5 b6).2.1, (Z28 a1 b3 b4 b5 b6).2.2.1, (Z28 a1 b3 b4 b5 b6).2.2.2.1, (Z28 a1 b3 b4 b5 b6).2.2.2.2) := by first | exact (Z7 h1 (Z7 h2 (Z7 h3 (Z7 h4 (Z14 h5 rfl))))) | simp only [Z13, h0, h1, h2, h3, h4, h5, cond_true, cond_false]
             exact ⟨_, (((((Turn.moveC 0 1 8 13 rfl rfl rfl (by simp [hset, oM, oV])).trans (Turn.moveC 1 0 9 14 rfl rfl rfl (by simp [hset, oM, oV]))).trans (Turn.moveC 1 1 10 15 rfl rfl rfl (by simp [hset, oM, oV]))).trans (Turn.moveC 1 2 11 16 rfl rfl rfl (by simp [hset, oM, oV]))).trans (Turn.moveC 1 3 12 17 rfl rfl rfl (by simp [hset, oM, oV]))).trans (Turn.fits (p := ⟨slots 61 [(6, .ptr 12 0)], (.cells 160 [.ptr 1 0, .vec 7] :: .cells 106 [.vec 8, .vec 9, .vec 10, .vec 11] :: .dead :: .dead :: .dead :: .dead :: .dead :: .vec false ⟨.call, (([] ++ b2) ++ [a1])⟩ :: oV ((Z28 a1 b3 b4 b5 b6).2.1) ((Z28 a1 b3 b4 b5 b6).2.2.1) ((Z28 a1 b3 b4 b5 b6).2.2.2.1) ((Z28 a1 b3 b4 b5 b6).2.2.2.2) [.cells 52 [.int .i64 13, .int .i64 0, .str (⟨#[]⟩ : BA), .int .u64 0]])⟩) [0, 1, 2, 3, 4, 5, 6, 13, 14, 15, 16, 17, 7] (by kernel_rfl) (by kernel_rfl) (by kernel_rfl) (by kernel_rfl)), trivial, .inl (by (try rw [hF]); kernel_rfl), by (try rw [hF]); kernel_rfl⟩
           · have hF : Z13 a1 a2 b2 b3 b4 b5 b6 = ((⟨(13 : Int), (0 : Int), (⟨#[]⟩ : BA), (0 : Int)⟩ : XRes), (([] ++ b2) ++ [a1]), b3, b4, b5, b6) := by first | exact (Z7 h1 (Z7 h2 (Z7 h3 (Z7 h4 (Z7 h5 rfl))))) | simp only [Z13, h0, h1, h2, h3, h4, h5, cond_true, cond_false]
             exact ⟨_, (((((Turn.moveC 0 1 8 9 rfl rfl rfl (by simp [hset, oM, oV])).trans (Turn.moveC 1 0 3 10 rfl rfl rfl (by simp [hset, oM, oV]))).trans (Turn.moveC 1 1 4 11 rfl rfl rfl (by simp [hset, oM, oV]))).trans (Turn.moveC 1 2 5 12 rfl rfl rfl (by simp [hset, oM, oV]))).trans (Turn.moveC 1 3 6 13 rfl rfl rfl (by simp [hset, oM, oV]))).trans (Turn.fits (p := ⟨slots 61 [(6, .ptr 12 0)], (.cells 160 [.ptr 1 0, .vec 7] :: .cells 106 [.vec 8, .vec 9, .vec 10, .vec 11] :: .dead :: .dead :: .dead :: .dead :: .dead :: .vec false ⟨.call, (([] ++ b2) ++ [a1])⟩ :: oV b3 b4 b5 b6 [.cells 52 [.int .i64 13, .int .i64 0, .str (⟨#[]⟩ : BA), .int .u64 0]])⟩) [0, 1, 2, 3, 4, 5, 6, 9, 10, 11, 12, 13, 7] (by kernel_rfl) (by kernel_rfl) (by kernel_rfl) (by kernel_rfl)), trivial, .inl (by (try rw [hF]); kernel_rfl), by (try rw [hF]); kernel_rfl⟩
noncomputable def Z10f : Fact Try.prog := factOf 100 Try.f100 (by kernel_rfl) rfl (by kernel_rfl) [.c (.ptr 0 0), .st .call, .c (.int .u8)] [.cells 160 [.ptr 1 0, .vec 2], .cells 106 [.vec 3, .vec 4, .vec 5, .vec 6], .vec false .call, .vec false .zone, .vec false .vol, .vec false .snap, .vec false .done] false (fun t u => .agg [.int .i64 (((Z13 t.2.1 t.2.2.1 u.2.2.1 u.2.2.2.1 u.2.2.2.2.1 u.2.2.2.2.2.1 u.2.2.2.2.2.2.1).1).err), .int .i64 (((Z13 t.2.1 t.2.2.1 u.2.2.1 u.2.2.2.1 u.2.2.2.2.1 u.2.2.2.2.2.1 u.2.2.2.2.2.2.1).1).size), .str (((Z13 t.2.1 t.2.2.1 u.2.2.1 u.2.2.2.1 u.2.2.2.2.1 u.2.2.2.2.2.1 u.2.2.2.2.2.2.1).1).zone), .int .u64 (((Z13 t.2.1 t.2.2.1 u.2.2.1 u.2.2.2.1 u.2.2.2.2.1 u.2.2.2.2.2.1 u.2.2.2.2.2.2.1).1).tag)]) (fun t u => (.cells 160 [.ptr 1 0, .vec 7] :: .cells 106 [.vec 8, .vec 9, .vec 10, .vec 11] :: .dead :: .dead :: .dead :: .dead :: .dead :: .vec false ⟨.call, (Z13 t.2.1 t.2.2.1 u.2.2.1 u.2.2.2.1 u.2.2.2.2.1 u.2.2.2.2.2.1 u.2.2.2.2.2.2.1).2.1⟩ :: oV ((Z13 t.2.1 t.2.2.1 u.2.2.1 u.2.2.2.1 u.2.2.2.2.1 u.2.2.2.2.2.1 u.2.2.2.2.2.2.1).2.2.1) ((Z13 t.2.1 t.2.2.1 u.2.2.1 u.2.2.2.1 u.2.2.2.2.1 u.2.2.2.2.2.1 u.2.2.2.2.2.2.1).2.2.2.1) ((Z13 t.2.1 t.2.2.1 u.2.2.1 u.2.2.2.1 u.2.2.2.2.1 u.2.2.2.2.2.1 u.2.2.2.2.2.2.1).2.2.2.2.1) ((Z13 t.2.1 t.2.2.1 u.2.2.1 u.2.2.2.1 u.2.2.2.2.1 u.2.2.2.2.2.1 u.2.2.2.2.2.2.1).2.2.2.2.2) [])) (fun t u => [CS t.2.1, u.2.2.2.1.length ≤ 1000, u.2.2.2.2.1.length ≤ 1000, u.2.2.2.2.2.1.length ≤ 1000, u.2.2.2.2.2.2.1.length ≤ 1000, ∀ v ∈ u.2.2.2.2.1, v.nodes.length ≤ 1000, ∀ v ∈ u.2.2.2.2.1, ZHas u.2.2.2.1 v.zone])
 (nofun) (fun t u => by kernel_rfl) (fun t u => by kernel_rfl) (fun t u h => Z126 t.2.1 t.2.2.1 u.2.2.1 u.2.2.2.1 u.2.2.2.2.1 u.2.2.2.2.2.1 u.2.2.2.2.2.2.1 (h _ mS) (h _ (mN mS)) (h _ (mN (mN mS))) (h _ (mN (mN (mN mS)))) (h _ (mN (mN (mN (mN mS))))) (h _ (mN (mN (mN (mN (mN mS)))))) (h _ (mN (mN (mN (mN (mN (mN mS))))))))
noncomputable def E_r11_Client_Again : Env := envOf (P := Try.prog) [rD_Do_fact] [] [] ckf true
def Z10 (a1 : Int) (b2 : LK) (b3 : LZ) (b4 : LV) (b5 : LS) (b6 : LQ) : Int × LZ × LV × LS × LQ :=
 cond (cond (decide (a1 < (0 : Int))) true (decide (a1 ≥ (b2.length : Int))))
   ((3 : Int), b3, b4, b5, b6)
   ((0 : Int), (Z28 (b2.getD a1.toNat default) b3 b4 b5 b6).2.1, (Z28 (b2.getD a1.toNat default) b3 b4 b5 b6).2.2.1, (Z28 (b2.getD a1.toNat default) b3 b4 b5 b6).2.2.2.1, (Z28 (b2.getD a1.toNat default) b3 b4 b5 b6).2.2.2.2)
def Zc5 (a1 : Int) (b2 : LK) (b3 : LZ) (b4 : LV) (b5 : LS) (b6 : LQ) : RT :=
 (.ask false
   .fail
   (.ask (cond (decide (a1 < (0 : Int))) true (decide (a1 ≥ (b2.length : Int))))
     (.leaf .ret ⟨slots 32 [(4, .int .i64 3)], (.cells 160 [.ptr 1 0, .vec 2] :: .cells 106 [.vec 3, .vec 4, .vec 5, .vec 6] :: .vec false ⟨.call, b2⟩ :: oV b3 b4 b5 b6 [])⟩ [])
     (.need [0 ≤ a1 ∧ a1 < (b2.length : Int), b3.length ≤ 1000, b4.length ≤ 1000, b5.length ≤ 1000, b6.length ≤ 1000, ∀ v ∈ b4, v.nodes.length ≤ 1000, ∀ v ∈ b4, ZHas b3 v.zone, CS (b2.getD a1.toNat default)]
       (.leaf .ret ⟨slots 32 [(4, .int .i64 0)], (.cells 160 [.ptr 1 0, .vec 2] :: .cells 106 [.vec 7, .vec 8, .vec 9, .vec 10] :: .vec false ⟨.call, b2⟩ :: .dead :: .dead :: .dead :: .dead :: oV ((Z28 (b2.getD a1.toNat default) b3 b4 b5 b6).2.1) ((Z28 (b2.getD a1.toNat default) b3 b4 b5 b6).2.2.1) ((Z28 (b2.getD a1.toNat default) b3 b4 b5 b6).2.2.2.1) ((Z28 (b2.getD a1.toNat default) b3 b4 b5 b6).2.2.2.2) [])⟩ []))))
theorem Z112 (a1 : Int) (b2 : LK) (b3 : LZ) (b4 : LV) (b5 : LS) (b6 : LQ) (hp0 : ∀ x ∈ b2, CS x) (hp1 : b3.length ≤ 1000) (hp2 : b4.length ≤ 1000) (hp3 : b5.length ≤ 1000) (hp4 : b6.length ≤ 1000) (hp5 : ∀ v ∈ b4, v.nodes.length ≤ 1000) (hp6 : ∀ v ∈ b4, ZHas b3 v.zone) : Tr Try.prog 7 (bodyOf Try.f98) (fnBegins Try.f98 [.ptr 0 0, .int .i64 a1] (.cells 160 [.ptr 1 0, .vec 2] :: .cells 106 [.vec 3, .vec 4, .vec 5, .vec 6] :: .vec false ⟨.call, b2⟩ :: oV b3 b4 b5 b6 [])) (fnEnds Try.prog Try.f98 (.int .i64 ((Z10 a1 b2 b3 b4 b5 b6).1)) (.cells 160 [.ptr 1 0, .vec 2] :: .cells 106 [.vec 7, .vec 8, .vec 9, .vec 10] :: .vec false ⟨.call, b2⟩ :: .dead :: .dead :: .dead :: .dead :: oV ((Z10 a1 b2 b3 b4 b5 b6).2.1) ((Z10 a1 b2 b3 b4 b5 b6).2.2.1) ((Z10 a1 b2 b3 b4 b5 b6).2.2.2.1) ((Z10 a1 b2 b3 b4 b5 b6).2.2.2.2) [])) := by
 refine Tr.post ?_
 refine Tr_tree (kok _ _ _ _ _ _) (E := E_r11_Client_Again) (L := noLoops) 60 9999 Z11.none (Zc5 a1 b2 b3 b4 b5 b6) (by kernel_rfl) (by kernel_rfl) (by kernel_rfl) ?_
 unfold Zc5
 refine ⟨fun h0 => ?_, fun h0 => ?_⟩
 · exact absurd h0 (by simp)
 · refine ⟨fun h1 => ?_, fun h1 => ?_⟩
   · have hF : Z10 a1 b2 b3 b4 b5 b6 = ((3 : Int), b3, b4, b5, b6) := by first | exact (Z14 h1 rfl) | simp only [Z10, h0, h1, cond_true, cond_false]
     exact ⟨_, ((((Turn.moveC 1 0 3 7 rfl rfl rfl (by simp [hset, oM, oV])).trans (Turn.moveC 1 1 4 8 rfl rfl rfl (by simp [hset, oM, oV]))).trans (Turn.moveC 1 2 5 9 rfl rfl rfl (by simp [hset, oM, oV]))).trans (Turn.moveC 1 3 6 10 rfl rfl rfl (by simp [hset, oM, oV]))).trans (Turn.fits (p := ⟨slots 32 [(4, .int .i64 3)], (.cells 160 [.ptr 1 0, .vec 2] :: .cells 106 [.vec 7, .vec 8, .vec 9, .vec 10] :: .vec false ⟨.call, b2⟩ :: .dead :: .dead :: .dead :: .dead :: oV b3 b4 b5 b6 [])⟩) [] (by kernel_rfl) (by kernel_rfl) (by kernel_rfl) (by kernel_rfl)), trivial, .inl (by (try rw [hF]); kernel_rfl), by (try rw [hF]); kernel_rfl⟩
   · refine ⟨(by refine Z5 (by (try refine fun (_ : _ = _) => ?_); (try refine fun (_ : _ ∧ _) => ?_); (try simp only [Bool.cond_true_left, Bool.or_eq_false_iff, decide_eq_false_iff_not] at *); first | omega | (constructor <;> omega)) ?_; (iterate 6 refine Z5 (by (try refine fun (_ : _ = _) => ?_); (try refine fun (_ : _ ∧ _) => ?_); assumption) ?_); refine Z5 (by (try refine fun (_ : _ = _) => ?_); (try refine fun (_ : _ ∧ _) => ?_); (try simp only [Bool.cond_true_left, Bool.or_eq_false_iff, decide_eq_false_iff_not] at *); exact hp0 _ (gD_memI (by omega) (by omega))) ?_; exact Z9), ?_⟩
     have hF : Z10 a1 b2 b3 b4 b5 b6 = ((0 : Int), (Z28 (b2.getD a1.toNat default) b3 b4 b5 b6).2.1, (Z28 (b2.getD a1.toNat default) b3 b4 b5 b6).2.2.1, (Z28 (b2.getD a1.toNat default) b3 b4 b5 b6).2.2.2.1, (Z28 (b2.getD a1.toNat default) b3 b4 b5 b6).2.2.2.2) := by first | exact (Z7 h1 rfl) | simp only [Z10, h0, h1, cond_true, cond_false]
     exact ⟨_, ((((Turn.moveC 1 0 7 11 rfl rfl rfl (by simp [hset, oM, oV])).trans (Turn.moveC 1 1 8 12 rfl rfl rfl (by simp [hset, oM, oV]))).trans (Turn.moveC 1 2 9 13 rfl rfl rfl (by simp [hset, oM, oV]))).trans (Turn.moveC 1 3 10 14 rfl rfl rfl (by simp [hset, oM, oV]))).trans (Turn.fits (p := ⟨slots 32 [(4, .int .i64 0)], (.cells 160 [.ptr 1 0, .vec 2] :: .cells 106 [.vec 7, .vec 8, .vec 9, .vec 10] :: .vec false ⟨.call, b2⟩ :: .dead :: .dead :: .dead :: .dead :: oV ((Z28 (b2.getD a1.toNat default) b3 b4 b5 b6).2.1) ((Z28 (b2.getD a1.toNat default) b3 b4 b5 b6).2.2.1) ((Z28 (b2.getD a1.toNat default) b3 b4 b5 b6).2.2.2.1) ((Z28 (b2.getD a1.toNat default) b3 b4 b5 b6).2.2.2.2) [])⟩) [0, 1, 2, 3, 4, 5, 6, 11, 12, 13, 14] (by kernel_rfl) (by kernel_rfl) (by kernel_rfl) (by kernel_rfl)), trivial, .inl (by (try rw [hF]); kernel_rfl), by (try rw [hF]); kernel_rfl⟩
noncomputable def Zef : Fact Try.prog := factOf 98 Try.f98 (by kernel_rfl) rfl (by kernel_rfl) [.c (.ptr 0 0), .c (.int .i64)] [.cells 160 [.ptr 1 0, .vec 2], .cells 106 [.vec 3, .vec 4, .vec 5, .vec 6], .vec false .call, .vec false .zone, .vec false .vol, .vec false .snap, .vec false .done] false (fun t u => .int .i64 ((Z10 t.2.1 u.2.2.1 u.2.2.2.1 u.2.2.2.2.1 u.2.2.2.2.2.1 u.2.2.2.2.2.2.1).1)) (fun t u => (.cells 160 [.ptr 1 0, .vec 2] :: .cells 106 [.vec 7, .vec 8, .vec 9, .vec 10] :: .vec false ⟨.call, u.2.2.1⟩ :: .dead :: .dead :: .dead :: .dead :: oV ((Z10 t.2.1 u.2.2.1 u.2.2.2.1 u.2.2.2.2.1 u.2.2.2.2.2.1 u.2.2.2.2.2.2.1).2.1) ((Z10 t.2.1 u.2.2.1 u.2.2.2.1 u.2.2.2.2.1 u.2.2.2.2.2.1 u.2.2.2.2.2.2.1).2.2.1) ((Z10 t.2.1 u.2.2.1 u.2.2.2.1 u.2.2.2.2.1 u.2.2.2.2.2.1 u.2.2.2.2.2.2.1).2.2.2.1) ((Z10 t.2.1 u.2.2.1 u.2.2.2.1 u.2.2.2.2.1 u.2.2.2.2.2.1 u.2.2.2.2.2.2.1).2.2.2.2) [])) (fun t u => [∀ x ∈ u.2.2.1, CS x, u.2.2.2.1.length ≤ 1000, u.2.2.2.2.1.length ≤ 1000, u.2.2.2.2.2.1.length ≤ 1000, u.2.2.2.2.2.2.1.length ≤ 1000, ∀ v ∈ u.2.2.2.2.1, v.nodes.length ≤ 1000, ∀ v ∈ u.2.2.2.2.1, ZHas u.2.2.2.1 v.zone])
 (nofun) (fun t u => by kernel_rfl) (fun t u => by kernel_rfl) (fun t u h => Z112 t.2.1 u.2.2.1 u.2.2.2.1 u.2.2.2.2.1 u.2.2.2.2.2.1 u.2.2.2.2.2.2.1 (h _ mS) (h _ (mN mS)) (h _ (mN (mN mS))) (h _ (mN (mN (mN mS)))) (h _ (mN (mN (mN (mN mS))))) (h _ (mN (mN (mN (mN (mN mS)))))) (h _ (mN (mN (mN (mN (mN (mN mS))))))))
noncomputable def Z102 : Fact Try.prog := factThin Zef [.c (.ptr 0 0), .c (.int .i64)] [.cells 160 [.ptr 1 0, .vec 2], .cells 106 [.vec 3, .vec 4, .vec 5, .vec 6], .vec false .call, .vec false .zone, .vec false .vol, .vec false .snap, .vec false .done] (fun t u => .int .i64 ((Z10 t.2.1 u.2.2.1 u.2.2.2.1 u.2.2.2.2.1 u.2.2.2.2.2.1 u.2.2.2.2.2.2.1).1)) (fun t u => (.cells 160 [.ptr 1 0, .vec 2] :: .cells 106 [.vec 7, .vec 8, .vec 9, .vec 10] :: .vec false ⟨.call, u.2.2.1⟩ :: .dead :: .dead :: .dead :: .dead :: oV ((Z10 t.2.1 u.2.2.1 u.2.2.2.1 u.2.2.2.2.1 u.2.2.2.2.2.1 u.2.2.2.2.2.2.1).2.1) ((Z10 t.2.1 u.2.2.1 u.2.2.2.1 u.2.2.2.2.1 u.2.2.2.2.2.1 u.2.2.2.2.2.2.1).2.2.1) ((Z10 t.2.1 u.2.2.1 u.2.2.2.1 u.2.2.2.2.1 u.2.2.2.2.2.1 u.2.2.2.2.2.2.1).2.2.2.1) ((Z10 t.2.1 u.2.2.1 u.2.2.2.1 u.2.2.2.2.1 u.2.2.2.2.2.1 u.2.2.2.2.2.2.1).2.2.2.2) [])) (fun t u => [∀ x ∈ u.2.2.1, CS x, u.2.2.2.1.length ≤ 1000, u.2.2.2.2.1.length ≤ 1000, u.2.2.2.2.2.1.length ≤ 1000, u.2.2.2.2.2.2.1.length ≤ 1000, ∀ v ∈ u.2.2.2.2.1, v.nodes.length ≤ 1000, ∀ v ∈ u.2.2.2.2.1, ZHas u.2.2.2.1 v.zone]) rfl [0, 2] (by
 intro t u k hk
 simp only [List.mem_cons, List.not_mem_nil, or_false] at hk
 rcases hk with rfl | rfl
 all_goals exact ⟨by decide, rfl⟩)
noncomputable def E_r11_Client_Sent : Env := envOf (P := Try.prog) [] [] [] ckf true
def Z36 (b2 : LK) (b3 : LZ) (b4 : LV) (b5 : LS) (b6 : LQ) : LK :=
 ([] ++ b2)
def Ze5 (b2 : LK) (b3 : LZ) (b4 : LV) (b5 : LS) (b6 : LQ) : RT :=
 (.ask false
   .fail
   (.need [(([] : LK).length + b2.length) * 88 ≤ bytesLim ∧ ([] : LK).length + b2.length ≤ maxLen]
     (.leaf .ret ⟨slots 11 [(2, .vec 7)], (.cells 160 [.ptr 1 0, .vec 2] :: .cells 106 [.vec 3, .vec 4, .vec 5, .vec 6] :: .vec false ⟨.call, b2⟩ :: oV b3 b4 b5 b6 [.vec false ⟨.call, ([] ++ b2)⟩])⟩ [0, 1, 2, 3, 4, 5, 6, 9])))
theorem Z125 (b2 : LK) (b3 : LZ) (b4 : LV) (b5 : LS) (b6 : LQ) (hp0 : b2.length ≤ 1000000) : Tr Try.prog 7 (bodyOf Try.f78) (fnBegins Try.f78 [.ptr 0 0] (.cells 160 [.ptr 1 0, .vec 2] :: .cells 106 [.vec 3, .vec 4, .vec 5, .vec 6] :: .vec false ⟨.call, b2⟩ :: oV b3 b4 b5 b6 [])) (fnEnds Try.prog Try.f78 (.coll ⟨.call, Z36 b2 b3 b4 b5 b6⟩) (.cells 160 [.ptr 1 0, .vec 2] :: .cells 106 [.vec 3, .vec 4, .vec 5, .vec 6] :: .vec false ⟨.call, b2⟩ :: oV b3 b4 b5 b6 [])) := by
 refine Tr.post ?_
 refine Tr_tree (kok _ _ _ _ _ _) (E := E_r11_Client_Sent) (L := noLoops) 60 9999 Z11.none (Ze5 b2 b3 b4 b5 b6) (by kernel_rfl) (by kernel_rfl) (by kernel_rfl) ?_
 unfold Ze5
 refine ⟨fun h0 => ?_, fun h0 => ?_⟩
 · exact absurd h0 (by simp)
 · refine ⟨Z5 (by (try refine fun (_ : _ = _) => ?_); (try refine fun (_ : _ ∧ _) => ?_); unfold bytesLim maxLen; (try simp only [List.length_nil]); omega) (Z9), ?_⟩
   have hF : Z36 b2 b3 b4 b5 b6 = ([] ++ b2) := by first | exact rfl | simp only [Z36, h0, cond_true, cond_false]
   exact ⟨_, Turn.frz 7 rfl, trivial, .inr (by (try rw [hF]); kernel_rfl), by (try rw [hF]); kernel_rfl⟩
noncomputable def Z10e : Fact Try.prog := factOf 78 Try.f78 (by kernel_rfl) rfl (by kernel_rfl) [.c (.ptr 0 0)] [.cells 160 [.ptr 1 0, .vec 2], .cells 106 [.vec 3, .vec 4, .vec 5, .vec 6], .vec false .call, .vec false .zone, .vec false .vol, .vec false .snap, .vec false .done] true (fun t u => .coll ⟨.call, Z36 u.2.2.1 u.2.2.2.1 u.2.2.2.2.1 u.2.2.2.2.2.1 u.2.2.2.2.2.2.1⟩) (fun t u => HPL.enc _ u) (fun t u => [u.2.2.1.length ≤ 1000000])
 (fun _ _ _ => rfl) (fun t u => by kernel_rfl) (fun t u => by kernel_rfl) (fun t u h => Z125 u.2.2.1 u.2.2.2.1 u.2.2.2.2.1 u.2.2.2.2.2.1 u.2.2.2.2.2.2.1 (h _ mS))
noncomputable def E_r11_Client_Put : Env := envOf (P := Try.prog) [rD_Put_fact] [] [] ckf true
def Z31 (a1 : BA) (a2 : BA) (a3 : Int) (b2 : LK) (b3 : LZ) (b4 : LV) (b5 : LS) (b6 : LQ) : Int × LV :=
 (((Z5d a1 a2 a3 b3 b4 b5 b6).1), (Z5d a1 a2 a3 b3 b4 b5 b6).2)
def Z101 (a1 : BA) (a2 : BA) (a3 : Int) (b2 : LK) (b3 : LZ) (b4 : LV) (b5 : LS) (b6 : LQ) : RT :=
 (.ask false
   .fail
   (.need [b3.length ≤ 1000, b4.length ≤ 1000, b5.length ≤ 1000, b6.length ≤ 1000, ∀ v ∈ b4, v.nodes.length ≤ 1000]
     (.leaf .ret ⟨slots 19 [(8, .int .i64 ((Z5d a1 a2 a3 b3 b4 b5 b6).1))], (.cells 160 [.ptr 1 0, .vec 2] :: .cells 106 [.vec 3, .vec 4, .vec 5, .vec 6] :: .vec false ⟨.call, b2⟩ :: oV b3 ((Z5d a1 a2 a3 b3 b4 b5 b6).2) b5 b6 [])⟩ [])))
theorem Z136 (a1 : BA) (a2 : BA) (a3 : Int) (b2 : LK) (b3 : LZ) (b4 : LV) (b5 : LS) (b6 : LQ) (hp0 : b3.length ≤ 1000) (hp1 : b4.length ≤ 1000) (hp2 : b5.length ≤ 1000) (hp3 : b6.length ≤ 1000) (hp4 : ∀ v ∈ b4, v.nodes.length ≤ 1000) : Tr Try.prog 7 (bodyOf Try.f99) (fnBegins Try.f99 [.ptr 0 0, .str a1, .str a2, .int .u64 a3] (.cells 160 [.ptr 1 0, .vec 2] :: .cells 106 [.vec 3, .vec 4, .vec 5, .vec 6] :: .vec false ⟨.call, b2⟩ :: oV b3 b4 b5 b6 [])) (fnEnds Try.prog Try.f99 (.int .i64 ((Z31 a1 a2 a3 b2 b3 b4 b5 b6).1)) (.cells 160 [.ptr 1 0, .vec 2] :: .cells 106 [.vec 3, .vec 4, .vec 5, .vec 6] :: .vec false ⟨.call, b2⟩ :: oV b3 ((Z31 a1 a2 a3 b2 b3 b4 b5 b6).2) b5 b6 [])) := by
 refine Tr_tree (kok _ _ _ _ _ _) (E := E_r11_Client_Put) (L := noLoops) 60 9999 Z11.none (Z101 a1 a2 a3 b2 b3 b4 b5 b6) (by kernel_rfl) (by kernel_rfl) (by kernel_rfl) ?_
 unfold Z101
 refine ⟨fun h0 => ?_, fun h0 => ?_⟩
 · exact absurd h0 (by simp)
 · refine ⟨(by (iterate 5 refine Z5 (by (try refine fun (_ : _ = _) => ?_); (try refine fun (_ : _ ∧ _) => ?_); assumption) ?_); exact Z9), ?_⟩
   have hF : Z31 a1 a2 a3 b2 b3 b4 b5 b6 = (((Z5d a1 a2 a3 b3 b4 b5 b6).1), (Z5d a1 a2 a3 b3 b4 b5 b6).2) := by first | exact rfl | simp only [Z31, h0, cond_true, cond_false]
   exact ⟨trivial, .inl (by (try rw [hF]); kernel_rfl), by (try rw [hF]); kernel_rfl⟩
noncomputable def Z111 : Fact Try.prog := factOf 99 Try.f99 (by kernel_rfl) rfl (by kernel_rfl) [.c (.ptr 0 0), .c (.str), .c (.str), .c (.int .u64)] [.cells 160 [.ptr 1 0, .vec 2], .cells 106 [.vec 3, .vec 4, .vec 5, .vec 6], .vec false .call, .vec false .zone, .vec false .vol, .vec false .snap, .vec false .done] false (fun t u => .int .i64 ((Z31 t.2.1 t.2.2.1 t.2.2.2.1 u.2.2.1 u.2.2.2.1 u.2.2.2.2.1 u.2.2.2.2.2.1 u.2.2.2.2.2.2.1).1)) (fun t u => (.cells 160 [.ptr 1 0, .vec 2] :: .cells 106 [.vec 3, .vec 4, .vec 5, .vec 6] :: .vec false ⟨.call, u.2.2.1⟩ :: oV (u.2.2.2.1) ((Z31 t.2.1 t.2.2.1 t.2.2.2.1 u.2.2.1 u.2.2.2.1 u.2.2.2.2.1 u.2.2.2.2.2.1 u.2.2.2.2.2.2.1).2) (u.2.2.2.2.2.1) (u.2.2.2.2.2.2.1) [])) (fun t u => [u.2.2.2.1.length ≤ 1000, u.2.2.2.2.1.length ≤ 1000, u.2.2.2.2.2.1.length ≤ 1000, u.2.2.2.2.2.2.1.length ≤ 1000, ∀ v ∈ u.2.2.2.2.1, v.nodes.length ≤ 1000])
 (nofun) (fun t u => by kernel_rfl) (fun t u => by kernel_rfl) (fun t u h => Z136 t.2.1 t.2.2.1 t.2.2.2.1 u.2.2.1 u.2.2.2.1 u.2.2.2.2.1 u.2.2.2.2.2.1 u.2.2.2.2.2.2.1 (h _ mS) (h _ (mN mS)) (h _ (mN (mN mS))) (h _ (mN (mN (mN mS)))) (h _ (mN (mN (mN (mN mS))))))
noncomputable def Z128 : Fact Try.prog := factThin Z111 [.c (.ptr 0 0), .c (.str), .c (.str), .c (.int .u64)] [.cells 160 [.ptr 1 0, .vec 2], .cells 106 [.vec 3, .vec 4, .vec 5, .vec 6], .vec false .call, .vec false .zone, .vec false .vol, .vec false .snap, .vec false .done] (fun t u => .int .i64 ((Z31 t.2.1 t.2.2.1 t.2.2.2.1 u.2.2.1 u.2.2.2.1 u.2.2.2.2.1 u.2.2.2.2.2.1 u.2.2.2.2.2.2.1).1)) (fun t u => (.cells 160 [.ptr 1 0, .vec 2] :: .cells 106 [.vec 3, .vec 4, .vec 5, .vec 6] :: .vec false ⟨.call, u.2.2.1⟩ :: oV (u.2.2.2.1) ((Z31 t.2.1 t.2.2.1 t.2.2.2.1 u.2.2.1 u.2.2.2.1 u.2.2.2.2.1 u.2.2.2.2.2.1 u.2.2.2.2.2.2.1).2) (u.2.2.2.2.2.1) (u.2.2.2.2.2.2.1) [])) (fun t u => [u.2.2.2.1.length ≤ 1000, u.2.2.2.2.1.length ≤ 1000, u.2.2.2.2.2.1.length ≤ 1000, u.2.2.2.2.2.2.1.length ≤ 1000, ∀ v ∈ u.2.2.2.2.1, v.nodes.length ≤ 1000]) rfl [0, 1, 2, 3, 5, 6] (by
 intro t u k hk
 simp only [List.mem_cons, List.not_mem_nil, or_false] at hk
 rcases hk with rfl | rfl | rfl | rfl | rfl | rfl
 all_goals exact ⟨by decide, rfl⟩)
noncomputable def E_r11_Client_Room : Env := envOf (P := Try.prog) [rD_Room_fact] [] [] ckf true
def Z43 (a1 : BA) (b2 : LK) (b3 : LZ) (b4 : LV) (b5 : LS) (b6 : LQ) : Int × Bool :=
 (((Z71 a1 b3 b4 b5 b6).1), (Z71 a1 b3 b4 b5 b6).2)
def Ze7 (a1 : BA) (b2 : LK) (b3 : LZ) (b4 : LV) (b5 : LS) (b6 : LQ) : RT :=
 (.ask false
   .fail
   (.need [b3.length ≤ 1000, b4.length ≤ 1000, b5.length ≤ 1000, b6.length ≤ 1000]
     (.leaf .ret ⟨slots 16 [(4, .int .i64 ((Z71 a1 b3 b4 b5 b6).1)), (5, .bool ((Z71 a1 b3 b4 b5 b6).2))], (.cells 160 [.ptr 1 0, .vec 2] :: .cells 106 [.vec 3, .vec 4, .vec 5, .vec 6] :: .vec false ⟨.call, b2⟩ :: oV b3 b4 b5 b6 [])⟩ [])))
theorem Z127 (a1 : BA) (b2 : LK) (b3 : LZ) (b4 : LV) (b5 : LS) (b6 : LQ) (hp0 : b3.length ≤ 1000) (hp1 : b4.length ≤ 1000) (hp2 : b5.length ≤ 1000) (hp3 : b6.length ≤ 1000) : Tr Try.prog 7 (bodyOf Try.f77) (fnBegins Try.f77 [.ptr 0 0, .str a1] (.cells 160 [.ptr 1 0, .vec 2] :: .cells 106 [.vec 3, .vec 4, .vec 5, .vec 6] :: .vec false ⟨.call, b2⟩ :: oV b3 b4 b5 b6 [])) (fnEnds Try.prog Try.f77 (.tup [.int .i64 ((Z43 a1 b2 b3 b4 b5 b6).1), .bool ((Z43 a1 b2 b3 b4 b5 b6).2)]) (.cells 160 [.ptr 1 0, .vec 2] :: .cells 106 [.vec 3, .vec 4, .vec 5, .vec 6] :: .vec false ⟨.call, b2⟩ :: oV b3 b4 b5 b6 [])) := by
 refine Tr_tree (kok _ _ _ _ _ _) (E := E_r11_Client_Room) (L := noLoops) 60 9999 Z11.none (Ze7 a1 b2 b3 b4 b5 b6) (by kernel_rfl) (by kernel_rfl) (by kernel_rfl) ?_
 unfold Ze7
 refine ⟨fun h0 => ?_, fun h0 => ?_⟩
 · exact absurd h0 (by simp)
 · refine ⟨(by (iterate 4 refine Z5 (by (try refine fun (_ : _ = _) => ?_); (try refine fun (_ : _ ∧ _) => ?_); assumption) ?_); exact Z9), ?_⟩
   have hF : Z43 a1 b2 b3 b4 b5 b6 = (((Z71 a1 b3 b4 b5 b6).1), (Z71 a1 b3 b4 b5 b6).2) := by first | exact rfl | simp only [Z43, h0, cond_true, cond_false]
   exact ⟨trivial, .inl (by (try rw [hF]); kernel_rfl), by (try rw [hF]); kernel_rfl⟩
noncomputable def Z110 : Fact Try.prog := factOf 77 Try.f77 (by kernel_rfl) rfl (by kernel_rfl) [.c (.ptr 0 0), .c (.str)] [.cells 160 [.ptr 1 0, .vec 2], .cells 106 [.vec 3, .vec 4, .vec 5, .vec 6], .vec false .call, .vec false .zone, .vec false .vol, .vec false .snap, .vec false .done] true (fun t u => .tup [.int .i64 ((Z43 t.2.1 u.2.2.1 u.2.2.2.1 u.2.2.2.2.1 u.2.2.2.2.2.1 u.2.2.2.2.2.2.1).1), .bool ((Z43 t.2.1 u.2.2.1 u.2.2.2.1 u.2.2.2.2.1 u.2.2.2.2.2.1 u.2.2.2.2.2.2.1).2)]) (fun t u => HPL.enc _ u) (fun t u => [u.2.2.2.1.length ≤ 1000, u.2.2.2.2.1.length ≤ 1000, u.2.2.2.2.2.1.length ≤ 1000, u.2.2.2.2.2.2.1.length ≤ 1000])
 (fun _ _ _ => rfl) (fun t u => by kernel_rfl) (fun t u => by kernel_rfl) (fun t u h => Z127 t.2.1 u.2.2.1 u.2.2.2.1 u.2.2.2.2.1 u.2.2.2.2.2.1 u.2.2.2.2.2.2.1 (h _ mS) (h _ (mN mS)) (h _ (mN (mN mS))) (h _ (mN (mN (mN mS)))))
noncomputable def E_r11_Client_Volumes : Env := envOf (P := Try.prog) [Z142] [] [] ckf true
def Z4f (b2 : LK) (b3 : LZ) (b4 : LV) (b5 : LS) (b6 : LQ) : LV :=
 Z68 b3 b4 b5 b6
def Zab (b2 : LK) (b3 : LZ) (b4 : LV) (b5 : LS) (b6 : LQ) : RT :=
 (.ask false
   .fail
   (.need [b3.length ≤ 1000, b4.length ≤ 1000, b5.length ≤ 1000, b6.length ≤ 1000, ∀ v ∈ b4, v.nodes.length ≤ 1000]
     (.leaf .ret ⟨slots 10 [(2, .coll ⟨.vol, Z68 b3 b4 b5 b6⟩)], (.cells 160 [.ptr 1 0, .vec 2] :: .cells 106 [.vec 3, .vec 4, .vec 5, .vec 6] :: .vec false ⟨.call, b2⟩ :: oV b3 b4 b5 b6 [])⟩ [])))
theorem Zee (b2 : LK) (b3 : LZ) (b4 : LV) (b5 : LS) (b6 : LQ) (hp0 : b3.length ≤ 1000) (hp1 : b4.length ≤ 1000) (hp2 : b5.length ≤ 1000) (hp3 : b6.length ≤ 1000) (hp4 : ∀ v ∈ b4, v.nodes.length ≤ 1000) : Tr Try.prog 7 (bodyOf Try.f79) (fnBegins Try.f79 [.ptr 0 0] (.cells 160 [.ptr 1 0, .vec 2] :: .cells 106 [.vec 3, .vec 4, .vec 5, .vec 6] :: .vec false ⟨.call, b2⟩ :: oV b3 b4 b5 b6 [])) (fnEnds Try.prog Try.f79 (.coll ⟨.vol, Z4f b2 b3 b4 b5 b6⟩) (.cells 160 [.ptr 1 0, .vec 2] :: .cells 106 [.vec 3, .vec 4, .vec 5, .vec 6] :: .vec false ⟨.call, b2⟩ :: oV b3 b4 b5 b6 [])) := by
 refine Tr_tree (kok _ _ _ _ _ _) (E := E_r11_Client_Volumes) (L := noLoops) 60 9999 Z11.none (Zab b2 b3 b4 b5 b6) (by kernel_rfl) (by kernel_rfl) (by kernel_rfl) ?_
 unfold Zab
 refine ⟨fun h0 => ?_, fun h0 => ?_⟩
 · exact absurd h0 (by simp)
 · refine ⟨(by (iterate 5 refine Z5 (by (try refine fun (_ : _ = _) => ?_); (try refine fun (_ : _ ∧ _) => ?_); assumption) ?_); exact Z9), ?_⟩
   have hF : Z4f b2 b3 b4 b5 b6 = (Z68 b3 b4 b5 b6) := by first | exact rfl | simp only [Z4f, h0, cond_true, cond_false]
   exact ⟨trivial, .inl (by (try rw [hF]); kernel_rfl), by (try rw [hF]); kernel_rfl⟩
noncomputable def Zd6 : Fact Try.prog := factOf 79 Try.f79 (by kernel_rfl) rfl (by kernel_rfl) [.c (.ptr 0 0)] [.cells 160 [.ptr 1 0, .vec 2], .cells 106 [.vec 3, .vec 4, .vec 5, .vec 6], .vec false .call, .vec false .zone, .vec false .vol, .vec false .snap, .vec false .done] true (fun t u => .coll ⟨.vol, Z4f u.2.2.1 u.2.2.2.1 u.2.2.2.2.1 u.2.2.2.2.2.1 u.2.2.2.2.2.2.1⟩) (fun t u => HPL.enc _ u) (fun t u => [u.2.2.2.1.length ≤ 1000, u.2.2.2.2.1.length ≤ 1000, u.2.2.2.2.2.1.length ≤ 1000, u.2.2.2.2.2.2.1.length ≤ 1000, ∀ v ∈ u.2.2.2.2.1, v.nodes.length ≤ 1000])
 (fun _ _ _ => rfl) (fun t u => by kernel_rfl) (fun t u => by kernel_rfl) (fun t u h => Zee u.2.2.1 u.2.2.2.1 u.2.2.2.2.1 u.2.2.2.2.2.1 u.2.2.2.2.2.2.1 (h _ mS) (h _ (mN mS)) (h _ (mN (mN mS))) (h _ (mN (mN (mN mS)))) (h _ (mN (mN (mN (mN mS))))))
noncomputable def E_r11_Client_Snaps : Env := envOf (P := Try.prog) [rD_Snaps_2_fact] [] [] ckf true
def Z56 (b2 : LK) (b3 : LZ) (b4 : LV) (b5 : LS) (b6 : LQ) : LS :=
 Z83 b3 b4 b5 b6
def Zc4 (b2 : LK) (b3 : LZ) (b4 : LV) (b5 : LS) (b6 : LQ) : RT :=
 (.ask false
   .fail
   (.need [b3.length ≤ 1000, b4.length ≤ 1000, b5.length ≤ 1000, b6.length ≤ 1000, ∀ v ∈ b4, v.nodes.length ≤ 1000]
     (.leaf .ret ⟨slots 10 [(2, .coll ⟨.snap, Z83 b3 b4 b5 b6⟩)], (.cells 160 [.ptr 1 0, .vec 2] :: .cells 106 [.vec 3, .vec 4, .vec 5, .vec 6] :: .vec false ⟨.call, b2⟩ :: oV b3 b4 b5 b6 [])⟩ [])))
theorem Z10d (b2 : LK) (b3 : LZ) (b4 : LV) (b5 : LS) (b6 : LQ) (hp0 : b3.length ≤ 1000) (hp1 : b4.length ≤ 1000) (hp2 : b5.length ≤ 1000) (hp3 : b6.length ≤ 1000) (hp4 : ∀ v ∈ b4, v.nodes.length ≤ 1000) : Tr Try.prog 7 (bodyOf Try.f80) (fnBegins Try.f80 [.ptr 0 0] (.cells 160 [.ptr 1 0, .vec 2] :: .cells 106 [.vec 3, .vec 4, .vec 5, .vec 6] :: .vec false ⟨.call, b2⟩ :: oV b3 b4 b5 b6 [])) (fnEnds Try.prog Try.f80 (.coll ⟨.snap, Z56 b2 b3 b4 b5 b6⟩) (.cells 160 [.ptr 1 0, .vec 2] :: .cells 106 [.vec 3, .vec 4, .vec 5, .vec 6] :: .vec false ⟨.call, b2⟩ :: oV b3 b4 b5 b6 [])) := by
 refine Tr_tree (kok _ _ _ _ _ _) (E := E_r11_Client_Snaps) (L := noLoops) 60 9999 Z11.none (Zc4 b2 b3 b4 b5 b6) (by kernel_rfl) (by kernel_rfl) (by kernel_rfl) ?_
 unfold Zc4
 refine ⟨fun h0 => ?_, fun h0 => ?_⟩
 · exact absurd h0 (by simp)
 · refine ⟨(by (iterate 5 refine Z5 (by (try refine fun (_ : _ = _) => ?_); (try refine fun (_ : _ ∧ _) => ?_); assumption) ?_); exact Z9), ?_⟩
   have hF : Z56 b2 b3 b4 b5 b6 = (Z83 b3 b4 b5 b6) := by first | exact rfl | simp only [Z56, h0, cond_true, cond_false]
   exact ⟨trivial, .inl (by (try rw [hF]); kernel_rfl), by (try rw [hF]); kernel_rfl⟩
noncomputable def Z100 : Fact Try.prog := factOf 80 Try.f80 (by kernel_rfl) rfl (by kernel_rfl) [.c (.ptr 0 0)] [.cells 160 [.ptr 1 0, .vec 2], .cells 106 [.vec 3, .vec 4, .vec 5, .vec 6], .vec false .call, .vec false .zone, .vec false .vol, .vec false .snap, .vec false .done] true (fun t u => .coll ⟨.snap, Z56 u.2.2.1 u.2.2.2.1 u.2.2.2.2.1 u.2.2.2.2.2.1 u.2.2.2.2.2.2.1⟩) (fun t u => HPL.enc _ u) (fun t u => [u.2.2.2.1.length ≤ 1000, u.2.2.2.2.1.length ≤ 1000, u.2.2.2.2.2.1.length ≤ 1000, u.2.2.2.2.2.2.1.length ≤ 1000, ∀ v ∈ u.2.2.2.2.1, v.nodes.length ≤ 1000])
 (fun _ _ _ => rfl) (fun t u => by kernel_rfl) (fun t u => by kernel_rfl) (fun t u h => Z10d u.2.2.1 u.2.2.2.1 u.2.2.2.2.1 u.2.2.2.2.2.1 u.2.2.2.2.2.2.1 (h _ mS) (h _ (mN mS)) (h _ (mN (mN mS))) (h _ (mN (mN (mN mS)))) (h _ (mN (mN (mN (mN mS))))))
noncomputable def E_r11_New : Env := envOf (P := Try.prog) [r10_NewA_fact] [] [] ckf true
def Zd (a0 : LZ) : LK × LZ × LV × LS × LQ :=
 ([], (Z30 a0).2.1, (Z30 a0).2.2.1, (Z30 a0).2.2.2.1, (Z30 a0).2.2.2.2)
def r11_NewR (a0 : LZ) : RT :=
 (.need [a0.length < 4611686018427387904, ∀ z ∈ a0, z.name.size < 4611686018427387904, (Z30 a0).1 = true]
   (.ask false
     .fail
     (.leaf .ret ⟨slots 11 [(2, .ptr 0 0)], (.cells 160 [.ptr 1 0, .nils] :: .cells 106 [.vec 2, .vec 3, .vec 4, .vec 5] :: oV ((Z30 a0).2.1) ((Z30 a0).2.2.1) ((Z30 a0).2.2.2.1) ((Z30 a0).2.2.2.2) [])⟩ [5, 0, 1, 2, 3, 4])))
theorem r11_NewF_tr (a0 : LZ) (hp0 : a0.length < 4611686018427387904) (hp1 : ∀ z ∈ a0, z.name.size < 4611686018427387904) (hp2 : (Z30 a0).1 = true) : Tr Try.prog 0 (bodyOf Try.f74) (fnBegins Try.f74 [.coll ⟨.zone, a0⟩] []) (fnEnds Try.prog Try.f74 (.ptr 0 0) (.cells 160 [.ptr 1 0, .vec 2] :: .cells 106 [.vec 3, .vec 4, .vec 5, .vec 6] :: .vec false ⟨.call, (Zd a0).1⟩ :: oV ((Zd a0).2.1) ((Zd a0).2.2.1) ((Zd a0).2.2.2.1) ((Zd a0).2.2.2.2) [])) := by
 refine Tr.post ?_
 refine Tr_tree (kok _ _ _ _ _ _) (E := E_r11_New) (L := noLoops) 60 9999 Z11.none (r11_NewR a0) (by kernel_rfl) (by kernel_rfl) (by kernel_rfl) ?_
 unfold r11_NewR
 refine ⟨(by (iterate 3 refine Z5 (by (try refine fun (_ : _ = _) => ?_); (try refine fun (_ : _ ∧ _) => ?_); assumption) ?_); exact Z9), ?_⟩
 refine ⟨fun h0 => ?_, fun h0 => ?_⟩
 · exact absurd h0 (by simp)
 · have hF : Zd a0 = ([], (Z30 a0).2.1, (Z30 a0).2.2.1, (Z30 a0).2.2.2.1, (Z30 a0).2.2.2.2) := by first | exact rfl | simp only [Zd, h0, cond_true, cond_false]
   exact ⟨_, (Turn.ownNil 0 1 6 .call rfl rfl (by simp [hset, oM, oV])).trans (Turn.fits (p := ⟨slots 11 [(2, .ptr 0 0)], (.cells 160 [.ptr 1 0, .vec 2] :: .cells 106 [.vec 3, .vec 4, .vec 5, .vec 6] :: .vec false ⟨.call, []⟩ :: oV ((Z30 a0).2.1) ((Z30 a0).2.2.1) ((Z30 a0).2.2.2.1) ((Z30 a0).2.2.2.2) [])⟩) [0, 1, 6, 2, 3, 4, 5] (by kernel_rfl) (by kernel_rfl) (by kernel_rfl) (by kernel_rfl)), trivial, .inl (by (try rw [hF]); kernel_rfl), by (try rw [hF]); kernel_rfl⟩
noncomputable def r11_New_fact : Fact Try.prog := factOf 74 Try.f74 (by kernel_rfl) rfl (by kernel_rfl) [.c (.coll .zone)] [] false (fun t u => .ptr 0 0) (fun t u => (.cells 160 [.ptr 1 0, .vec 2] :: .cells 106 [.vec 3, .vec 4, .vec 5, .vec 6] :: .vec false ⟨.call, (Zd t.1).1⟩ :: oV ((Zd t.1).2.1) ((Zd t.1).2.2.1) ((Zd t.1).2.2.2.1) ((Zd t.1).2.2.2.2) [])) (fun t u => [t.1.length < 4611686018427387904, ∀ z ∈ t.1, z.name.size < 4611686018427387904, (Z30 t.1).1 = true])
 (nofun) (fun t u => by kernel_rfl) (fun t u => by kernel_rfl) (fun t u h => r11_NewF_tr t.1 (h _ mS) (h _ (mN mS)) (h _ (mN (mN mS))))
noncomputable def E_r11_Same : Env := envOf (P := Try.prog) [] [] [] ckf
def Z61 (a1 : LK) : LK → Nat → Bool
 | [], i => false
 | o :: r, i => cond (!(((o.verb) == ((a1.getD i default).verb)) && ((decide ((o.target) = ((a1.getD i default).target))) && (((o.num) == ((a1.getD i default).num)) && (((o.size) == ((a1.getD i default).size)) && ((decide ((o.zone) = ((a1.getD i default).zone))) && ((decide ((o.node) = ((a1.getD i default).node))) && (decide ((o.source) = ((a1.getD i default).source))))))))))
  true
  (Z61 a1 r (i + 1))
def Zc3 (a0 : LK) (a1 : LK) (i : Nat) : St :=
 ⟨slots 26 [(0, .coll ⟨.call, a0⟩), (1, .coll ⟨.call, a1⟩), (5, .int .i64 (i : Int))], []⟩
def Z143 (a0 : LK) (a1 : LK) (i : Nat) : RT :=
 (.ask (decide ((i : Int) < (a0.length : Int)))
   (.need [0 ≤ (i : Int) ∧ (i : Int) < (a0.length : Int), 0 ≤ (i : Int) ∧ (i : Int) < (a1.length : Int)]
     (.ask (!((((a0.getD i default).verb) == ((a1.getD i default).verb)) && ((decide (((a0.getD i default).target) = ((a1.getD i default).target))) && ((((a0.getD i default).num) == ((a1.getD i default).num)) && ((((a0.getD i default).size) == ((a1.getD i default).size)) && ((decide (((a0.getD i default).zone) = ((a1.getD i default).zone))) && ((decide (((a0.getD i default).node) = ((a1.getD i default).node))) && (decide (((a0.getD i default).source) = ((a1.getD i default).source))))))))))
       (.leaf .ret ⟨slots 26 [(4, .bool false)], []⟩ [])
       (.leaf .normal ⟨slots 26 [(0, .coll ⟨.call, a0⟩), (1, .coll ⟨.call, a1⟩), (5, .int .i64 (IntKind.i64.wrap ((i : Int) + (1 : Int))))], []⟩ [])))
   (.leaf (.exit 0) ⟨slots 26 [], []⟩ []))
def Z8b (a0 : LK) (a1 : LK) (i : Nat) : Tree :=
 .ask (Z61 a1 (a0.drop i) i) (.leaf .ret ⟨slots 26 [(4, .bool false)], []⟩) (.leaf (.exit 0) ⟨slots 26 [], []⟩)
theorem r11_SameL_loop (a0 : LK) (a1 : LK) (hp0 : a0.length ≤ 1000000) (hlen : a0.length < 4611686018427387904) (hn0 : a0.length = a1.length) (z : { z : Nat // z ≤ a0.length }) (Q : Exit → St → Prop) (h : (Z8b a0 a1 z.1).All Q) : Tr Try.prog 0 (.loop (loopAt Try.f42 0)) (Zc3 a0 a1 z.1) Q := by
 refine Tr_loopT (kok _ _ _ _ _ _) (E := E_r11_Same) (ι := { z : Nat // z ≤ a0.length }) 60 0 (fun _ => noLoops) (fun z => Zc3 a0 a1 z.1) (fun z => Z8b a0 a1 z.1) (fun z => Z143 a0 a1 z.1) (fun z => a0.length - z.1) (fun _ => Z11.none) (fun z => by obtain ⟨i, hi⟩ := z; kernel_rfl) (fun z => by obtain ⟨i, hi⟩ := z; kernel_rfl) (fun z => by obtain ⟨i, hi⟩ := z; kernel_rfl) ?_ z Q h
 rintro ⟨i, hi⟩ Q hT
 replace hT : (Z8b a0 a1 i).All Q := hT
 replace hi : i ≤ a0.length := hi
 show (Z143 a0 a1 i).All _
 unfold Z143
 refine ⟨fun h0 => ?_, fun h0 => ?_⟩
 · have hlt : i < a0.length := by simpa using h0
   have hd := drop_getD hlt
   have hw := wrap_succ (i := i) (by omega)
   refine ⟨(by (iterate 2 refine Z5 (by first | assumption | omega | ((try intro _); (try simp only [decide_eq_true_eq, decide_eq_false_iff_not, Bool.cond_false_right, Bool.cond_true_right, Bool.cond_true_left, Bool.cond_false_left, Bool.and_eq_true, Bool.or_eq_true, Bool.not_eq_true', bytesLim, maxLen, List.length_cons, List.length_nil, List.length_append, byteSize_lit] at *); omega)) ?_); exact Z9), ?_⟩
   refine ⟨fun h1 => ?_, fun h1 => ?_⟩
   · have hF : Z61 a1 (a0.drop i) i = true := by rw [hd]; first | exact (Z14 h1 rfl) | simp only [Z61, h0, h1, cond_true, cond_false]
     unfold Z8b at hT
     rw [hF] at hT
     exact hT.1 rfl
   · have hF : Z61 a1 (a0.drop i) i = Z61 a1 (a0.drop (i + 1)) (i + 1) := by rw [hd]; first | exact (Z7 h1 rfl) | simp only [Z61, h0, h1, cond_true, cond_false]
     refine ⟨⟨(i + 1), by show (i + 1) ≤ a0.length; omega⟩, by show a0.length - (i + 1) < a0.length - i; omega, ?_, ?_⟩
     · show _ = Zc3 a0 a1 (i + 1)
       unfold Zc3
       simp only [hw]
     · show (Z8b a0 a1 (i + 1)).All Q
       unfold Z8b at hT ⊢
       rw [hF] at hT
       exact hT
 · have hge : ¬ i < a0.length := by simpa using h0
   have hd : a0.drop i = [] := List.drop_eq_nil_of_le (by omega)
   have hF : Z61 a1 (a0.drop i) i = false := by rw [hd]; first | exact rfl | simp only [Z61, h0, cond_true, cond_false]
   unfold Z8b at hT
   rw [hF] at hT
   exact hT.2 rfl
def Z3b (a0 : LK) (a1 : LK) : Bool :=
 cond (!((a0.length : Int) == (a1.length : Int)))
  false
  (cond (Z61 a1 a0 0)
    false
    true)
def r11_SameR (a0 : LK) (a1 : LK) : RT :=
 (.ask (!((a0.length : Int) == (a1.length : Int)))
   (.leaf .ret ⟨slots 26 [(4, .bool false)], []⟩ [])
   (.need [a0.length = a1.length]
     (.ask (Z61 a1 a0 0)
       (.leaf .ret ⟨slots 26 [(4, .bool false)], []⟩ [])
       (.leaf .ret ⟨slots 26 [(4, .bool true)], []⟩ []))))
theorem r11_SameF_tr (a0 : LK) (a1 : LK) (hp0 : a0.length ≤ 1000000) : Tr Try.prog 0 (bodyOf Try.f42) (fnBegins Try.f42 [.coll ⟨.call, a0⟩, .coll ⟨.call, a1⟩] []) (fnEnds Try.prog Try.f42 (.bool (Z3b a0 a1)) []) := by
 refine Tr_tree (kok _ _ _ _ _ _) (E := E_r11_Same) (L := (loopsOf [(0, Zc3 a0 a1 0, [], .need [a0.length = a1.length] (Z8b a0 a1 0))])) 60 9999 (Z11.one (g := loopAt Try.f42 0) (b := 0) (by kernel_rfl) (by kernel_rfl) (by kernel_rfl) (by kernel_rfl) (fun Q h => r11_SameL_loop a0 a1 hp0 (by omega) (h.1 _ mS) ⟨0, by first | exact Nat.zero_le _ | (show 0 ≤ a0.length; omega) | (show 0 ≤ a0.length; exact ⟨Nat.zero_le _, by assumption⟩) | (show 0 ≤ a0.length; simp)⟩ Q h.2)) (r11_SameR a0 a1) (by kernel_rfl) (by kernel_rfl) (by kernel_rfl) ?_
 unfold r11_SameR
 refine ⟨fun h0 => ?_, fun h0 => ?_⟩
 · have hF : Z3b a0 a1 = false := by first | exact (Z14 h0 rfl) | simp only [Z3b, h0, cond_true, cond_false]
   exact ⟨trivial, .inl (by (try rw [hF]); kernel_rfl), by (try rw [hF]); kernel_rfl⟩
 · refine ⟨Z5 (by have h9 := h0; simp only [Bool.not_eq_false', decide_eq_true_eq, beq_iff_eq] at h9; omega) (Z9), ?_⟩
   refine ⟨fun h1 => ?_, fun h1 => ?_⟩
   · have hF : Z3b a0 a1 = false := by first | exact (Z7 h0 (Z14 h1 rfl)) | simp only [Z3b, h0, h1, cond_true, cond_false]
     exact ⟨trivial, .inl (by (try rw [hF]); kernel_rfl), by (try rw [hF]); kernel_rfl⟩
   · have hF : Z3b a0 a1 = true := by first | exact (Z7 h0 (Z7 h1 rfl)) | simp only [Z3b, h0, h1, cond_true, cond_false]
     exact ⟨trivial, .inl (by (try rw [hF]); kernel_rfl), by (try rw [hF]); kernel_rfl⟩
noncomputable def Z135 : Fact Try.prog := factOf 42 Try.f42 (by kernel_rfl) rfl (by kernel_rfl) [.c (.coll .call), .c (.coll .call)] [] true (fun t u => .bool (Z3b t.1 t.2.1)) (fun t u => []) (fun t u => [t.1.length ≤ 1000000])
 (fun _ _ _ => rfl) (fun t u => by kernel_rfl) (fun t u => by kernel_rfl) (fun t u h => r11_SameF_tr t.1 t.2.1 (h _ mS))
end Go.Proofs.Ytpffbkbadnhmmaa
