/- The client: its methods. -/
import Derived.Test.YtkledlcmhbjadaaGreatDCallClone
import Derived.Test.YtkledlcmhbjadaaGreatDNew
import Derived.Test.YtkledlcmhbjadaaGreatDVols
set_option linter.unusedVariables false
set_option linter.unusedSimpArgs false
set_option maxRecDepth 100000
namespace Go.Proofs.YtkledlcmhbjadaaGreat
open Go Go.Eng
noncomputable def Z203 : Env := Z65 (P := Tryz.prog) [Z124, dD_Do_fact] [] [] ckf true
def Z7 (a1 : XCall) (a2 : Int) (b2 : LK) (b3 : LA) (b4 : LB) (b5 : LC) (b6 : LD) : XRes × LA × LB × LC × LD × LK :=
 cond (cond (!(Z15 a1)) true (decide (a2 > (3 : Int))))
   ((⟨(2 : Int), (0 : Int), (⟨#[]⟩ : BA), (0 : Int)⟩ : XRes), b3, b4, b5, b6, b2)
   (cond (decide ((b2.length : Int) ≥ (4096 : Int)))
     ((⟨(7 : Int), (0 : Int), (⟨#[]⟩ : BA), (0 : Int)⟩ : XRes), b3, b4, b5, b6, b2)
     (cond (a2 == (0 : Int))
       (((Z1e a1 b3 b4 b5 b6).1), (Z1e a1 b3 b4 b5 b6).2.1, (Z1e a1 b3 b4 b5 b6).2.2.1, (Z1e a1 b3 b4 b5 b6).2.2.2.1, (Z1e a1 b3 b4 b5 b6).2.2.2.2, (b2 ++ [a1]))
       (cond (a2 == (2 : Int))
         ((⟨(13 : Int), (0 : Int), (⟨#[]⟩ : BA), (0 : Int)⟩ : XRes), (Z1e a1 b3 b4 b5 b6).2.1, (Z1e a1 b3 b4 b5 b6).2.2.1, (Z1e a1 b3 b4 b5 b6).2.2.2.1, (Z1e a1 b3 b4 b5 b6).2.2.2.2, (b2 ++ [a1]))
         (cond (a2 == (3 : Int))
           ((⟨(13 : Int), (0 : Int), (⟨#[]⟩ : BA), (0 : Int)⟩ : XRes), b3, b4, b5, b6, (b2 ++ [a1]))
           ((⟨(10 : Int), (0 : Int), (⟨#[]⟩ : BA), (0 : Int)⟩ : XRes), b3, b4, b5, b6, (b2 ++ [a1]))))))
def Z12a (a1 : XCall) (a2 : Int) (b2 : LK) (b3 : LA) (b4 : LB) (b5 : LC) (b6 : LD) : RT :=
 (.ask false
   .fail
   (.need [CS a1]
     (.ask (cond (!(Z15 a1)) true (decide (a2 > (3 : Int))))
       (.leaf .ret ⟨Za 66 [(6, .ptr 7 0)], (.cells 61 [.ptr 1 0, .vec 2] :: .cells 87 [.map 3, .map 4, .map 5, .map 6] :: .vec false ⟨.call, b2⟩ :: oM b3 b4 b5 b6 [.cells 52 [.int .i64 2, .int .i64 0, .str (⟨#[]⟩ : BA), .int .u64 0]])⟩ [0, 1, 2, 3, 4, 5, 6, 8])
       (.ask (decide ((b2.length : Int) ≥ (4096 : Int)))
         (.leaf .ret ⟨Za 66 [(6, .ptr 7 0)], (.cells 61 [.ptr 1 0, .vec 2] :: .cells 87 [.map 3, .map 4, .map 5, .map 6] :: .vec false ⟨.call, b2⟩ :: oM b3 b4 b5 b6 [.cells 52 [.int .i64 7, .int .i64 0, .str (⟨#[]⟩ : BA), .int .u64 0]])⟩ [0, 1, 2, 3, 4, 5, 6, 8])
         (.need [(b2.length + [a1].length) * 88 ≤ Z18 ∧ b2.length + [a1].length ≤ maxLen]
           (.ask (a2 == (0 : Int))
             (.need [CS a1]
               (.leaf .ret ⟨Za 66 [(6, .ptr 7 0)], (.cells 61 [.ptr 1 0, .vec 8] :: .cells 87 [.map 3, .map 4, .map 5, .map 6] :: .dead :: oM ((Z1e a1 b3 b4 b5 b6).2.1) ((Z1e a1 b3 b4 b5 b6).2.2.1) ((Z1e a1 b3 b4 b5 b6).2.2.2.1) ((Z1e a1 b3 b4 b5 b6).2.2.2.2) [.cells 52 [.int .i64 (((Z1e a1 b3 b4 b5 b6).1).err), .int .i64 (((Z1e a1 b3 b4 b5 b6).1).size), .str (((Z1e a1 b3 b4 b5 b6).1).zone), .int .u64 (((Z1e a1 b3 b4 b5 b6).1).tag)], .vec false ⟨.call, (b2 ++ [a1])⟩])⟩ [0, 1, 2, 3, 4, 5, 6, 8, 10]))
             (.ask (a2 == (2 : Int))
               (.need [CS a1]
                 (.leaf .ret ⟨Za 66 [(6, .ptr 7 0)], (.cells 61 [.ptr 1 0, .vec 8] :: .cells 87 [.map 3, .map 4, .map 5, .map 6] :: .dead :: oM ((Z1e a1 b3 b4 b5 b6).2.1) ((Z1e a1 b3 b4 b5 b6).2.2.1) ((Z1e a1 b3 b4 b5 b6).2.2.2.1) ((Z1e a1 b3 b4 b5 b6).2.2.2.2) [.cells 52 [.int .i64 13, .int .i64 0, .str (⟨#[]⟩ : BA), .int .u64 0], .vec false ⟨.call, (b2 ++ [a1])⟩])⟩ [0, 1, 2, 3, 4, 5, 6, 8, 10]))
               (.ask (a2 == (3 : Int))
                 (.leaf .ret ⟨Za 66 [(6, .ptr 7 0)], (.cells 61 [.ptr 1 0, .vec 8] :: .cells 87 [.map 3, .map 4, .map 5, .map 6] :: .dead :: oM b3 b4 b5 b6 [.cells 52 [.int .i64 13, .int .i64 0, .str (⟨#[]⟩ : BA), .int .u64 0], .vec false ⟨.call, (b2 ++ [a1])⟩])⟩ [0, 1, 2, 3, 4, 5, 6, 8, 10])
                 (.leaf .ret ⟨Za 66 [(6, .ptr 7 0)], (.cells 61 [.ptr 1 0, .vec 8] :: .cells 87 [.map 3, .map 4, .map 5, .map 6] :: .dead :: oM b3 b4 b5 b6 [.cells 52 [.int .i64 10, .int .i64 0, .str (⟨#[]⟩ : BA), .int .u64 0], .vec false ⟨.call, (b2 ++ [a1])⟩])⟩ [0, 1, 2, 3, 4, 5, 6, 8, 10])))))))))
theorem Z19f (a1 : XCall) (a2 : Int) (b2 : LK) (b3 : LA) (b4 : LB) (b5 : LC) (b6 : LD) (hp0 : CS a1) : Tr Tryz.prog 7 (Z3c Tryz.f19) (Z27 Tryz.f19 [.ptr 0 0, .agg (cc a1), .int .u8 a2] (.cells 61 [.ptr 1 0, .vec 2] :: .cells 87 [.map 3, .map 4, .map 5, .map 6] :: .vec false ⟨.call, b2⟩ :: oM b3 b4 b5 b6 [])) (Z48 Tryz.prog Tryz.f19 (.agg [.int .i64 (((Z7 a1 a2 b2 b3 b4 b5 b6).1).err), .int .i64 (((Z7 a1 a2 b2 b3 b4 b5 b6).1).size), .str (((Z7 a1 a2 b2 b3 b4 b5 b6).1).zone), .int .u64 (((Z7 a1 a2 b2 b3 b4 b5 b6).1).tag)]) (.cells 61 [.ptr 1 0, .vec 7] :: .cells 87 [.map 3, .map 4, .map 5, .map 6] :: .dead :: oM ((Z7 a1 a2 b2 b3 b4 b5 b6).2.1) ((Z7 a1 a2 b2 b3 b4 b5 b6).2.2.1) ((Z7 a1 a2 b2 b3 b4 b5 b6).2.2.2.1) ((Z7 a1 a2 b2 b3 b4 b5 b6).2.2.2.2.1) [.vec false ⟨.call, (Z7 a1 a2 b2 b3 b4 b5 b6).2.2.2.2.2⟩])) := by
 refine Tr.post ?_
 refine Z2f (kok _ _ _ _ _ _) (E := Z203) (L := Z32) 60 9999 Z14.none (Z12a a1 a2 b2 b3 b4 b5 b6) (by kernel_rfl) (by kernel_rfl) (by kernel_rfl) ?_
 unfold Z12a
 refine ⟨fun h0 => ?_, fun h0 => ?_⟩
 · exact absurd h0 (by simp)
 · refine ⟨Z2 (by assumption) (Z9), ?_⟩
   refine ⟨fun h1 => ?_, fun h1 => ?_⟩
   · have hF : Z7 a1 a2 b2 b3 b4 b5 b6 = ((⟨(2 : Int), (0 : Int), (⟨#[]⟩ : BA), (0 : Int)⟩ : XRes), b3, b4, b5, b6, b2) := by first | exact (Z12 h1 rfl) | simp only [Z7, h0, h1, cond_true, cond_false]
     exact ⟨_, (Turn.moveC 0 1 2 8 rfl rfl rfl (by simp [hset, oM, oV])).trans (Turn.fits (p := ⟨Za 66 [(6, .ptr 8 0)], (.cells 61 [.ptr 1 0, .vec 7] :: .cells 87 [.map 3, .map 4, .map 5, .map 6] :: .dead :: oM b3 b4 b5 b6 [.vec false ⟨.call, b2⟩, .cells 52 [.int .i64 2, .int .i64 0, .str (⟨#[]⟩ : BA), .int .u64 0]])⟩) [0, 1, 2, 3, 4, 5, 6, 8, 7] (by kernel_rfl) (by kernel_rfl) (by kernel_rfl) (by kernel_rfl)), trivial, .inl (by (try rw [hF]); kernel_rfl), by (try rw [hF]); kernel_rfl⟩
   · refine ⟨fun h2 => ?_, fun h2 => ?_⟩
     · have hF : Z7 a1 a2 b2 b3 b4 b5 b6 = ((⟨(7 : Int), (0 : Int), (⟨#[]⟩ : BA), (0 : Int)⟩ : XRes), b3, b4, b5, b6, b2) := by first | exact (Z3 h1 (Z12 h2 rfl)) | simp only [Z7, h0, h1, h2, cond_true, cond_false]
       exact ⟨_, (Turn.moveC 0 1 2 8 rfl rfl rfl (by simp [hset, oM, oV])).trans (Turn.fits (p := ⟨Za 66 [(6, .ptr 8 0)], (.cells 61 [.ptr 1 0, .vec 7] :: .cells 87 [.map 3, .map 4, .map 5, .map 6] :: .dead :: oM b3 b4 b5 b6 [.vec false ⟨.call, b2⟩, .cells 52 [.int .i64 7, .int .i64 0, .str (⟨#[]⟩ : BA), .int .u64 0]])⟩) [0, 1, 2, 3, 4, 5, 6, 8, 7] (by kernel_rfl) (by kernel_rfl) (by kernel_rfl) (by kernel_rfl)), trivial, .inl (by (try rw [hF]); kernel_rfl), by (try rw [hF]); kernel_rfl⟩
     · refine ⟨Z2 (by (simp only [decide_eq_false_iff_not] at *); unfold Z18 maxLen; (try simp only [List.length_append, List.length_cons, List.length_nil]); omega) (Z9), ?_⟩
       refine ⟨fun h3 => ?_, fun h3 => ?_⟩
       · refine ⟨Z2 (by assumption) (Z9), ?_⟩
         have hF : Z7 a1 a2 b2 b3 b4 b5 b6 = (((Z1e a1 b3 b4 b5 b6).1), (Z1e a1 b3 b4 b5 b6).2.1, (Z1e a1 b3 b4 b5 b6).2.2.1, (Z1e a1 b3 b4 b5 b6).2.2.2.1, (Z1e a1 b3 b4 b5 b6).2.2.2.2, (b2 ++ [a1])) := by first | exact (Z3 h1 (Z3 h2 (Z12 h3 rfl))) | simp only [Z7, h0, h1, h2, h3, cond_true, cond_false]
         exact ⟨_, (Turn.moveC 0 1 8 9 rfl rfl rfl (by simp [hset, oM, oV])).trans (Turn.fits (p := ⟨Za 66 [(6, .ptr 8 0)], (.cells 61 [.ptr 1 0, .vec 7] :: .cells 87 [.map 3, .map 4, .map 5, .map 6] :: .dead :: oM ((Z1e a1 b3 b4 b5 b6).2.1) ((Z1e a1 b3 b4 b5 b6).2.2.1) ((Z1e a1 b3 b4 b5 b6).2.2.2.1) ((Z1e a1 b3 b4 b5 b6).2.2.2.2) [.vec false ⟨.call, (b2 ++ [a1])⟩, .cells 52 [.int .i64 (((Z1e a1 b3 b4 b5 b6).1).err), .int .i64 (((Z1e a1 b3 b4 b5 b6).1).size), .str (((Z1e a1 b3 b4 b5 b6).1).zone), .int .u64 (((Z1e a1 b3 b4 b5 b6).1).tag)]])⟩) [0, 1, 2, 3, 4, 5, 6, 9, 7] (by kernel_rfl) (by kernel_rfl) (by kernel_rfl) (by kernel_rfl)), trivial, .inl (by (try rw [hF]); kernel_rfl), by (try rw [hF]); kernel_rfl⟩
       · refine ⟨fun h4 => ?_, fun h4 => ?_⟩
         · refine ⟨Z2 (by assumption) (Z9), ?_⟩
           have hF : Z7 a1 a2 b2 b3 b4 b5 b6 = ((⟨(13 : Int), (0 : Int), (⟨#[]⟩ : BA), (0 : Int)⟩ : XRes), (Z1e a1 b3 b4 b5 b6).2.1, (Z1e a1 b3 b4 b5 b6).2.2.1, (Z1e a1 b3 b4 b5 b6).2.2.2.1, (Z1e a1 b3 b4 b5 b6).2.2.2.2, (b2 ++ [a1])) := by first | exact (Z3 h1 (Z3 h2 (Z3 h3 (Z12 h4 rfl)))) | simp only [Z7, h0, h1, h2, h3, h4, cond_true, cond_false]
           exact ⟨_, (Turn.moveC 0 1 8 9 rfl rfl rfl (by simp [hset, oM, oV])).trans (Turn.fits (p := ⟨Za 66 [(6, .ptr 8 0)], (.cells 61 [.ptr 1 0, .vec 7] :: .cells 87 [.map 3, .map 4, .map 5, .map 6] :: .dead :: oM ((Z1e a1 b3 b4 b5 b6).2.1) ((Z1e a1 b3 b4 b5 b6).2.2.1) ((Z1e a1 b3 b4 b5 b6).2.2.2.1) ((Z1e a1 b3 b4 b5 b6).2.2.2.2) [.vec false ⟨.call, (b2 ++ [a1])⟩, .cells 52 [.int .i64 13, .int .i64 0, .str (⟨#[]⟩ : BA), .int .u64 0]])⟩) [0, 1, 2, 3, 4, 5, 6, 9, 7] (by kernel_rfl) (by kernel_rfl) (by kernel_rfl) (by kernel_rfl)), trivial, .inl (by (try rw [hF]); kernel_rfl), by (try rw [hF]); kernel_rfl⟩
         · refine ⟨fun h5 => ?_, fun h5 => ?_⟩
           · have hF : Z7 a1 a2 b2 b3 b4 b5 b6 = ((⟨(13 : Int), (0 : Int), (⟨#[]⟩ : BA), (0 : Int)⟩ : XRes), b3, b4, b5, b6, (b2 ++ [a1])) := by first | exact (Z3 h1 (Z3 h2 (Z3 h3 (Z3 h4 (Z12 h5 rfl))))) | simp only [Z7, h0, h1, h2, h3, h4, h5, cond_true, cond_false]
             exact ⟨_, (Turn.moveC 0 1 8 9 rfl rfl rfl (by simp [hset, oM, oV])).trans (Turn.fits (p := ⟨Za 66 [(6, .ptr 8 0)], (.cells 61 [.ptr 1 0, .vec 7] :: .cells 87 [.map 3, .map 4, .map 5, .map 6] :: .dead :: oM b3 b4 b5 b6 [.vec false ⟨.call, (b2 ++ [a1])⟩, .cells 52 [.int .i64 13, .int .i64 0, .str (⟨#[]⟩ : BA), .int .u64 0]])⟩) [0, 1, 2, 3, 4, 5, 6, 9, 7] (by kernel_rfl) (by kernel_rfl) (by kernel_rfl) (by kernel_rfl)), trivial, .inl (by (try rw [hF]); kernel_rfl), by (try rw [hF]); kernel_rfl⟩
           · have hF : Z7 a1 a2 b2 b3 b4 b5 b6 = ((⟨(10 : Int), (0 : Int), (⟨#[]⟩ : BA), (0 : Int)⟩ : XRes), b3, b4, b5, b6, (b2 ++ [a1])) := by first | exact (Z3 h1 (Z3 h2 (Z3 h3 (Z3 h4 (Z3 h5 rfl))))) | simp only [Z7, h0, h1, h2, h3, h4, h5, cond_true, cond_false]
             exact ⟨_, (Turn.moveC 0 1 8 9 rfl rfl rfl (by simp [hset, oM, oV])).trans (Turn.fits (p := ⟨Za 66 [(6, .ptr 8 0)], (.cells 61 [.ptr 1 0, .vec 7] :: .cells 87 [.map 3, .map 4, .map 5, .map 6] :: .dead :: oM b3 b4 b5 b6 [.vec false ⟨.call, (b2 ++ [a1])⟩, .cells 52 [.int .i64 10, .int .i64 0, .str (⟨#[]⟩ : BA), .int .u64 0]])⟩) [0, 1, 2, 3, 4, 5, 6, 9, 7] (by kernel_rfl) (by kernel_rfl) (by kernel_rfl) (by kernel_rfl)), trivial, .inl (by (try rw [hF]); kernel_rfl), by (try rw [hF]); kernel_rfl⟩
noncomputable def Z153 : Fact Tryz.prog := Z4b 19 Tryz.f19 (by kernel_rfl) rfl (by kernel_rfl) [.c (.ptr 0 0), .st .call, .c (.int .u8)] [.cells 61 [.ptr 1 0, .vec 2], .cells 87 [.map 3, .map 4, .map 5, .map 6], .vec false .call, .map .str (.int .i64), .vols, .map .str .sn, .map .tgt .done] false (fun t u => .agg [.int .i64 (((Z7 t.2.1 t.2.2.1 u.2.2.1 u.2.2.2.1 u.2.2.2.2.1 u.2.2.2.2.2.1 u.2.2.2.2.2.2.1).1).err), .int .i64 (((Z7 t.2.1 t.2.2.1 u.2.2.1 u.2.2.2.1 u.2.2.2.2.1 u.2.2.2.2.2.1 u.2.2.2.2.2.2.1).1).size), .str (((Z7 t.2.1 t.2.2.1 u.2.2.1 u.2.2.2.1 u.2.2.2.2.1 u.2.2.2.2.2.1 u.2.2.2.2.2.2.1).1).zone), .int .u64 (((Z7 t.2.1 t.2.2.1 u.2.2.1 u.2.2.2.1 u.2.2.2.2.1 u.2.2.2.2.2.1 u.2.2.2.2.2.2.1).1).tag)]) (fun t u => (.cells 61 [.ptr 1 0, .vec 7] :: .cells 87 [.map 3, .map 4, .map 5, .map 6] :: .dead :: oM ((Z7 t.2.1 t.2.2.1 u.2.2.1 u.2.2.2.1 u.2.2.2.2.1 u.2.2.2.2.2.1 u.2.2.2.2.2.2.1).2.1) ((Z7 t.2.1 t.2.2.1 u.2.2.1 u.2.2.2.1 u.2.2.2.2.1 u.2.2.2.2.2.1 u.2.2.2.2.2.2.1).2.2.1) ((Z7 t.2.1 t.2.2.1 u.2.2.1 u.2.2.2.1 u.2.2.2.2.1 u.2.2.2.2.2.1 u.2.2.2.2.2.2.1).2.2.2.1) ((Z7 t.2.1 t.2.2.1 u.2.2.1 u.2.2.2.1 u.2.2.2.2.1 u.2.2.2.2.2.1 u.2.2.2.2.2.2.1).2.2.2.2.1) [.vec false ⟨.call, (Z7 t.2.1 t.2.2.1 u.2.2.1 u.2.2.2.1 u.2.2.2.2.1 u.2.2.2.2.2.1 u.2.2.2.2.2.2.1).2.2.2.2.2⟩])) (fun t u => [CS t.2.1])
 (nofun) (fun t u => by kernel_rfl) (fun t u => by kernel_rfl) (fun t u h => Z19f t.2.1 t.2.2.1 u.2.2.1 u.2.2.2.1 u.2.2.2.2.1 u.2.2.2.2.2.1 u.2.2.2.2.2.2.1 (h _ mS))
noncomputable def Zdc : Fact Tryz.prog := Z8c Z153 [.c (.ptr 0 0), .st .call, .c (.int .u8)] [.cells 61 [.ptr 1 0, .vec 2], .cells 87 [.map 3, .map 4, .map 5, .map 6], .vec false .call, .map .str (.int .i64), .vols, .map .str .sn, .map .tgt .done] (fun t u => .agg [.int .i64 (((Z7 t.2.1 t.2.2.1 u.2.2.1 u.2.2.2.1 u.2.2.2.2.1 u.2.2.2.2.2.1 u.2.2.2.2.2.2.1).1).err), .int .i64 (((Z7 t.2.1 t.2.2.1 u.2.2.1 u.2.2.2.1 u.2.2.2.2.1 u.2.2.2.2.2.1 u.2.2.2.2.2.2.1).1).size), .str (((Z7 t.2.1 t.2.2.1 u.2.2.1 u.2.2.2.1 u.2.2.2.2.1 u.2.2.2.2.2.1 u.2.2.2.2.2.2.1).1).zone), .int .u64 (((Z7 t.2.1 t.2.2.1 u.2.2.1 u.2.2.2.1 u.2.2.2.2.1 u.2.2.2.2.2.1 u.2.2.2.2.2.2.1).1).tag)]) (fun t u => (.cells 61 [.ptr 1 0, .vec 7] :: .cells 87 [.map 3, .map 4, .map 5, .map 6] :: .dead :: oM ((Z7 t.2.1 t.2.2.1 u.2.2.1 u.2.2.2.1 u.2.2.2.2.1 u.2.2.2.2.2.1 u.2.2.2.2.2.2.1).2.1) ((Z7 t.2.1 t.2.2.1 u.2.2.1 u.2.2.2.1 u.2.2.2.2.1 u.2.2.2.2.2.1 u.2.2.2.2.2.2.1).2.2.1) ((Z7 t.2.1 t.2.2.1 u.2.2.1 u.2.2.2.1 u.2.2.2.2.1 u.2.2.2.2.2.1 u.2.2.2.2.2.2.1).2.2.2.1) ((Z7 t.2.1 t.2.2.1 u.2.2.1 u.2.2.2.1 u.2.2.2.2.1 u.2.2.2.2.2.1 u.2.2.2.2.2.2.1).2.2.2.2.1) [.vec false ⟨.call, (Z7 t.2.1 t.2.2.1 u.2.2.1 u.2.2.2.1 u.2.2.2.2.1 u.2.2.2.2.2.1 u.2.2.2.2.2.2.1).2.2.2.2.2⟩])) (fun t u => [CS t.2.1]) rfl [1] (by
 intro t u k hk
 obtain rfl := List.mem_singleton.1 hk
 all_goals exact ⟨by decide, rfl⟩)
noncomputable def Z1cb : Env := Z65 (P := Tryz.prog) [dD_Do_fact] [] [] ckf true
def Z4 (a1 : Int) (b2 : LK) (b3 : LA) (b4 : LB) (b5 : LC) (b6 : LD) : Int × LA × LB × LC × LD :=
 cond (cond (decide (a1 < (0 : Int))) true (decide (a1 ≥ (b2.length : Int))))
   ((3 : Int), b3, b4, b5, b6)
   ((0 : Int), (Z1e (b2.getD a1.toNat default) b3 b4 b5 b6).2.1, (Z1e (b2.getD a1.toNat default) b3 b4 b5 b6).2.2.1, (Z1e (b2.getD a1.toNat default) b3 b4 b5 b6).2.2.2.1, (Z1e (b2.getD a1.toNat default) b3 b4 b5 b6).2.2.2.2)
def Z108 (a1 : Int) (b2 : LK) (b3 : LA) (b4 : LB) (b5 : LC) (b6 : LD) : RT :=
 (.ask false
   .fail
   (.ask (cond (decide (a1 < (0 : Int))) true (decide (a1 ≥ (b2.length : Int))))
     (.leaf .ret ⟨Za 35 [(4, .int .i64 3)], (.cells 61 [.ptr 1 0, .vec 2] :: .cells 87 [.map 3, .map 4, .map 5, .map 6] :: .vec false ⟨.call, b2⟩ :: oM b3 b4 b5 b6 [])⟩ [])
     (.need [0 ≤ a1 ∧ a1 < (b2.length : Int), CS (b2.getD a1.toNat default)]
       (.leaf .ret ⟨Za 35 [(4, .int .i64 0)], (.cells 61 [.ptr 1 0, .vec 2] :: .cells 87 [.map 3, .map 4, .map 5, .map 6] :: .vec false ⟨.call, b2⟩ :: oM ((Z1e (b2.getD a1.toNat default) b3 b4 b5 b6).2.1) ((Z1e (b2.getD a1.toNat default) b3 b4 b5 b6).2.2.1) ((Z1e (b2.getD a1.toNat default) b3 b4 b5 b6).2.2.2.1) ((Z1e (b2.getD a1.toNat default) b3 b4 b5 b6).2.2.2.2) [])⟩ []))))
theorem Z180 (a1 : Int) (b2 : LK) (b3 : LA) (b4 : LB) (b5 : LC) (b6 : LD) (hp0 : ∀ x ∈ b2, CS x) : Tr Tryz.prog 7 (Z3c Tryz.f10) (Z27 Tryz.f10 [.ptr 0 0, .int .i64 a1] (.cells 61 [.ptr 1 0, .vec 2] :: .cells 87 [.map 3, .map 4, .map 5, .map 6] :: .vec false ⟨.call, b2⟩ :: oM b3 b4 b5 b6 [])) (Z48 Tryz.prog Tryz.f10 (.int .i64 ((Z4 a1 b2 b3 b4 b5 b6).1)) (.cells 61 [.ptr 1 0, .vec 2] :: .cells 87 [.map 3, .map 4, .map 5, .map 6] :: .vec false ⟨.call, b2⟩ :: oM ((Z4 a1 b2 b3 b4 b5 b6).2.1) ((Z4 a1 b2 b3 b4 b5 b6).2.2.1) ((Z4 a1 b2 b3 b4 b5 b6).2.2.2.1) ((Z4 a1 b2 b3 b4 b5 b6).2.2.2.2) [])) := by
 refine Z2f (kok _ _ _ _ _ _) (E := Z1cb) (L := Z32) 60 9999 Z14.none (Z108 a1 b2 b3 b4 b5 b6) (by kernel_rfl) (by kernel_rfl) (by kernel_rfl) ?_
 unfold Z108
 refine ⟨fun h0 => ?_, fun h0 => ?_⟩
 · exact absurd h0 (by simp)
 · refine ⟨fun h1 => ?_, fun h1 => ?_⟩
   · have hF : Z4 a1 b2 b3 b4 b5 b6 = ((3 : Int), b3, b4, b5, b6) := by first | exact (Z12 h1 rfl) | simp only [Z4, h0, h1, cond_true, cond_false]
     exact ⟨trivial, .inl (by (try rw [hF]); kernel_rfl), by (try rw [hF]); kernel_rfl⟩
   · refine ⟨Z2 (by (try simp only [Bool.cond_true_left, Bool.or_eq_false_iff, decide_eq_false_iff_not] at *); first | omega | (constructor <;> omega)) (Z2 (by (try simp only [Bool.cond_true_left, Bool.or_eq_false_iff, decide_eq_false_iff_not] at *); exact hp0 _ (Zf4 (by omega) (by omega))) (Z9)), ?_⟩
     have hF : Z4 a1 b2 b3 b4 b5 b6 = ((0 : Int), (Z1e (b2.getD a1.toNat default) b3 b4 b5 b6).2.1, (Z1e (b2.getD a1.toNat default) b3 b4 b5 b6).2.2.1, (Z1e (b2.getD a1.toNat default) b3 b4 b5 b6).2.2.2.1, (Z1e (b2.getD a1.toNat default) b3 b4 b5 b6).2.2.2.2) := by first | exact (Z3 h1 rfl) | simp only [Z4, h0, h1, cond_true, cond_false]
     exact ⟨trivial, .inl (by (try rw [hF]); kernel_rfl), by (try rw [hF]); kernel_rfl⟩
noncomputable def Z143 : Fact Tryz.prog := Z4b 10 Tryz.f10 (by kernel_rfl) rfl (by kernel_rfl) [.c (.ptr 0 0), .c (.int .i64)] [.cells 61 [.ptr 1 0, .vec 2], .cells 87 [.map 3, .map 4, .map 5, .map 6], .vec false .call, .map .str (.int .i64), .vols, .map .str .sn, .map .tgt .done] false (fun t u => .int .i64 ((Z4 t.2.1 u.2.2.1 u.2.2.2.1 u.2.2.2.2.1 u.2.2.2.2.2.1 u.2.2.2.2.2.2.1).1)) (fun t u => (.cells 61 [.ptr 1 0, .vec 2] :: .cells 87 [.map 3, .map 4, .map 5, .map 6] :: .vec false ⟨.call, u.2.2.1⟩ :: oM ((Z4 t.2.1 u.2.2.1 u.2.2.2.1 u.2.2.2.2.1 u.2.2.2.2.2.1 u.2.2.2.2.2.2.1).2.1) ((Z4 t.2.1 u.2.2.1 u.2.2.2.1 u.2.2.2.2.1 u.2.2.2.2.2.1 u.2.2.2.2.2.2.1).2.2.1) ((Z4 t.2.1 u.2.2.1 u.2.2.2.1 u.2.2.2.2.1 u.2.2.2.2.2.1 u.2.2.2.2.2.2.1).2.2.2.1) ((Z4 t.2.1 u.2.2.1 u.2.2.2.1 u.2.2.2.2.1 u.2.2.2.2.2.1 u.2.2.2.2.2.2.1).2.2.2.2) [])) (fun t u => [∀ x ∈ u.2.2.1, CS x])
 (nofun) (fun t u => by kernel_rfl) (fun t u => by kernel_rfl) (fun t u h => Z180 t.2.1 u.2.2.1 u.2.2.2.1 u.2.2.2.2.1 u.2.2.2.2.2.1 u.2.2.2.2.2.2.1 (h _ mS))
noncomputable def Zc3 : Fact Tryz.prog := Z8c Z143 [.c (.ptr 0 0), .c (.int .i64)] [.cells 61 [.ptr 1 0, .vec 2], .cells 87 [.map 3, .map 4, .map 5, .map 6], .vec false .call, .map .str (.int .i64), .vols, .map .str .sn, .map .tgt .done] (fun t u => .int .i64 ((Z4 t.2.1 u.2.2.1 u.2.2.2.1 u.2.2.2.2.1 u.2.2.2.2.2.1 u.2.2.2.2.2.2.1).1)) (fun t u => (.cells 61 [.ptr 1 0, .vec 2] :: .cells 87 [.map 3, .map 4, .map 5, .map 6] :: .vec false ⟨.call, u.2.2.1⟩ :: oM ((Z4 t.2.1 u.2.2.1 u.2.2.2.1 u.2.2.2.2.1 u.2.2.2.2.2.1 u.2.2.2.2.2.2.1).2.1) ((Z4 t.2.1 u.2.2.1 u.2.2.2.1 u.2.2.2.2.1 u.2.2.2.2.2.1 u.2.2.2.2.2.2.1).2.2.1) ((Z4 t.2.1 u.2.2.1 u.2.2.2.1 u.2.2.2.2.1 u.2.2.2.2.2.1 u.2.2.2.2.2.2.1).2.2.2.1) ((Z4 t.2.1 u.2.2.1 u.2.2.2.1 u.2.2.2.2.1 u.2.2.2.2.2.1 u.2.2.2.2.2.2.1).2.2.2.2) [])) (fun t u => [∀ x ∈ u.2.2.1, CS x]) rfl [0, 1, 2] (by
 intro t u k hk
 simp only [List.mem_cons, List.not_mem_nil, or_false] at hk
 rcases hk with rfl | rfl | rfl
 all_goals exact ⟨by decide, rfl⟩)
noncomputable def Z202 : Env := Z65 (P := Tryz.prog) [cloneA_fact] [] [] ckf true
def Z1a (b2 : LK) (b3 : LA) (b4 : LB) (b5 : LC) (b6 : LD) : LK :=
 b2
def Z129 (b2 : LK) (b3 : LA) (b4 : LB) (b5 : LC) (b6 : LD) : RT :=
 (.ask false
   .fail
   (.need [b2.length ≤ 1000000]
     (.leaf .ret ⟨Za 11 [(2, .vec 7)], (.cells 61 [.ptr 1 0, .vec 2] :: .cells 87 [.map 3, .map 4, .map 5, .map 6] :: .vec false ⟨.call, b2⟩ :: oM b3 b4 b5 b6 [.vec false ⟨.call, b2⟩])⟩ [0, 1, 2, 3, 4, 5, 6, 8])))
theorem Z19e (b2 : LK) (b3 : LA) (b4 : LB) (b5 : LC) (b6 : LD) (hp0 : b2.length ≤ 1000000) : Tr Tryz.prog 7 (Z3c Tryz.f7) (Z27 Tryz.f7 [.ptr 0 0] (.cells 61 [.ptr 1 0, .vec 2] :: .cells 87 [.map 3, .map 4, .map 5, .map 6] :: .vec false ⟨.call, b2⟩ :: oM b3 b4 b5 b6 [])) (Z48 Tryz.prog Tryz.f7 (.coll ⟨.call, Z1a b2 b3 b4 b5 b6⟩) (.cells 61 [.ptr 1 0, .vec 2] :: .cells 87 [.map 3, .map 4, .map 5, .map 6] :: .vec false ⟨.call, b2⟩ :: oM b3 b4 b5 b6 [])) := by
 refine Tr.post ?_
 refine Z2f (kok _ _ _ _ _ _) (E := Z202) (L := Z32) 60 9999 Z14.none (Z129 b2 b3 b4 b5 b6) (by kernel_rfl) (by kernel_rfl) (by kernel_rfl) ?_
 unfold Z129
 refine ⟨fun h0 => ?_, fun h0 => ?_⟩
 · exact absurd h0 (by simp)
 · refine ⟨Z2 (by assumption) (Z9), ?_⟩
   have hF : Z1a b2 b3 b4 b5 b6 = b2 := by first | exact rfl | simp only [Z1a, h0, cond_true, cond_false]
   exact ⟨_, Turn.frz 7 rfl, trivial, .inr (by (try rw [hF]); kernel_rfl), by (try rw [hF]); kernel_rfl⟩
noncomputable def Zdb : Fact Tryz.prog := Z4b 7 Tryz.f7 (by kernel_rfl) rfl (by kernel_rfl) [.c (.ptr 0 0)] [.cells 61 [.ptr 1 0, .vec 2], .cells 87 [.map 3, .map 4, .map 5, .map 6], .vec false .call, .map .str (.int .i64), .vols, .map .str .sn, .map .tgt .done] true (fun t u => .coll ⟨.call, Z1a u.2.2.1 u.2.2.2.1 u.2.2.2.2.1 u.2.2.2.2.2.1 u.2.2.2.2.2.2.1⟩) (fun t u => HPL.enc _ u) (fun t u => [u.2.2.1.length ≤ 1000000])
 (fun _ _ _ => rfl) (fun t u => by kernel_rfl) (fun t u => by kernel_rfl) (fun t u h => Z19e u.2.2.1 u.2.2.2.1 u.2.2.2.2.1 u.2.2.2.2.2.1 u.2.2.2.2.2.2.1 (h _ mS))
noncomputable def Z1a4 : Env := Z65 (P := Tryz.prog) [] [] [] ckf
def Zf7 (b2 : LK) (b3 : LA) (b4 : LB) (b5 : LC) (b6 : LD) : RT :=
 (.ask false
   .fail
   (.leaf .ret ⟨Za 10 [(2, .ptr 1 0)], (.cells 61 [.ptr 1 0, .vec 2] :: .cells 87 [.map 3, .map 4, .map 5, .map 6] :: .vec false ⟨.call, b2⟩ :: oM b3 b4 b5 b6 [])⟩ []))
theorem Z151 (b2 : LK) (b3 : LA) (b4 : LB) (b5 : LC) (b6 : LD)  : Tr Tryz.prog 7 (Z3c Tryz.f41) (Z27 Tryz.f41 [.ptr 0 0] (.cells 61 [.ptr 1 0, .vec 2] :: .cells 87 [.map 3, .map 4, .map 5, .map 6] :: .vec false ⟨.call, b2⟩ :: oM b3 b4 b5 b6 [])) (Z48 Tryz.prog Tryz.f41 (.ptr 1 0) (.cells 61 [.ptr 1 0, .vec 2] :: .cells 87 [.map 3, .map 4, .map 5, .map 6] :: .vec false ⟨.call, b2⟩ :: oM b3 b4 b5 b6 [])) := by
 refine Z2f (kok _ _ _ _ _ _) (E := Z1a4) (L := Z32) 60 9999 Z14.none (Zf7 b2 b3 b4 b5 b6) (by kernel_rfl) (by kernel_rfl) (by kernel_rfl) ?_
 unfold Zf7
 refine ⟨fun h0 => ?_, fun h0 => ?_⟩
 · exact absurd h0 (by simp)
 · exact ⟨trivial, .inl (by kernel_rfl), by kernel_rfl⟩
noncomputable def Z7c : Fact Tryz.prog := Z4b 41 Tryz.f41 (by kernel_rfl) rfl (by kernel_rfl) [.c (.ptr 0 0)] [.cells 61 [.ptr 1 0, .vec 2], .cells 87 [.map 3, .map 4, .map 5, .map 6], .vec false .call, .map .str (.int .i64), .vols, .map .str .sn, .map .tgt .done] true (fun t u => .ptr 1 0) (fun t u => HPL.enc _ u) (fun t u => [])
 (fun _ _ _ => rfl) (fun t u => by kernel_rfl) (fun t u => by kernel_rfl) (fun t u h => Z151 u.2.2.1 u.2.2.2.1 u.2.2.2.2.1 u.2.2.2.2.2.1 u.2.2.2.2.2.2.1 )
noncomputable def Z22e : Env := Z65 (P := Tryz.prog) [Z7c, dD_Put_fact] [] [] ckf
def Z41 (a1 : BA) (a2 : BA) (a3 : Int) (b2 : LK) (b3 : LA) (b4 : LB) (b5 : LC) (b6 : LD) : Int × LB :=
 (((Z8f a1 a2 a3 b3 b4 b5 b6).1), (Z8f a1 a2 a3 b3 b4 b5 b6).2)
def Z14d (a1 : BA) (a2 : BA) (a3 : Int) (b2 : LK) (b3 : LA) (b4 : LB) (b5 : LC) (b6 : LD) : RT :=
 (.leaf .ret ⟨Za 15 [(8, .int .i64 ((Z8f a1 a2 a3 b3 b4 b5 b6).1))], (.cells 61 [.ptr 1 0, .vec 2] :: .cells 87 [.map 3, .map 4, .map 5, .map 6] :: .vec false ⟨.call, b2⟩ :: oM b3 ((Z8f a1 a2 a3 b3 b4 b5 b6).2) b5 b6 [])⟩ [])
theorem Z1c8 (a1 : BA) (a2 : BA) (a3 : Int) (b2 : LK) (b3 : LA) (b4 : LB) (b5 : LC) (b6 : LD)  : Tr Tryz.prog 7 (Z3c Tryz.f31) (Z27 Tryz.f31 [.ptr 0 0, .str a1, .str a2, .int .u64 a3] (.cells 61 [.ptr 1 0, .vec 2] :: .cells 87 [.map 3, .map 4, .map 5, .map 6] :: .vec false ⟨.call, b2⟩ :: oM b3 b4 b5 b6 [])) (Z48 Tryz.prog Tryz.f31 (.int .i64 ((Z41 a1 a2 a3 b2 b3 b4 b5 b6).1)) (.cells 61 [.ptr 1 0, .vec 2] :: .cells 87 [.map 3, .map 4, .map 5, .map 6] :: .vec false ⟨.call, b2⟩ :: oM b3 ((Z41 a1 a2 a3 b2 b3 b4 b5 b6).2) b5 b6 [])) := by
 refine Z2f (kok _ _ _ _ _ _) (E := Z22e) (L := Z32) 60 9999 Z14.none (Z14d a1 a2 a3 b2 b3 b4 b5 b6) (by kernel_rfl) (by kernel_rfl) (by kernel_rfl) ?_
 unfold Z14d
 exact ⟨trivial, .inl (by kernel_rfl), by kernel_rfl⟩
noncomputable def Z17e : Fact Tryz.prog := Z4b 31 Tryz.f31 (by kernel_rfl) rfl (by kernel_rfl) [.c (.ptr 0 0), .c (.str), .c (.str), .c (.int .u64)] [.cells 61 [.ptr 1 0, .vec 2], .cells 87 [.map 3, .map 4, .map 5, .map 6], .vec false .call, .map .str (.int .i64), .vols, .map .str .sn, .map .tgt .done] false (fun t u => .int .i64 ((Z41 t.2.1 t.2.2.1 t.2.2.2.1 u.2.2.1 u.2.2.2.1 u.2.2.2.2.1 u.2.2.2.2.2.1 u.2.2.2.2.2.2.1).1)) (fun t u => (.cells 61 [.ptr 1 0, .vec 2] :: .cells 87 [.map 3, .map 4, .map 5, .map 6] :: .vec false ⟨.call, u.2.2.1⟩ :: oM (u.2.2.2.1) ((Z41 t.2.1 t.2.2.1 t.2.2.2.1 u.2.2.1 u.2.2.2.1 u.2.2.2.2.1 u.2.2.2.2.2.1 u.2.2.2.2.2.2.1).2) (u.2.2.2.2.2.1) (u.2.2.2.2.2.2.1) [])) (fun t u => [])
 (nofun) (fun t u => by kernel_rfl) (fun t u => by kernel_rfl) (fun t u h => Z1c8 t.2.1 t.2.2.1 t.2.2.2.1 u.2.2.1 u.2.2.2.1 u.2.2.2.2.1 u.2.2.2.2.2.1 u.2.2.2.2.2.2.1 )
noncomputable def Z1a1 : Fact Tryz.prog := Z8c Z17e [.c (.ptr 0 0), .c (.str), .c (.str), .c (.int .u64)] [.cells 61 [.ptr 1 0, .vec 2], .cells 87 [.map 3, .map 4, .map 5, .map 6], .vec false .call, .map .str (.int .i64), .vols, .map .str .sn, .map .tgt .done] (fun t u => .int .i64 ((Z41 t.2.1 t.2.2.1 t.2.2.2.1 u.2.2.1 u.2.2.2.1 u.2.2.2.2.1 u.2.2.2.2.2.1 u.2.2.2.2.2.2.1).1)) (fun t u => (.cells 61 [.ptr 1 0, .vec 2] :: .cells 87 [.map 3, .map 4, .map 5, .map 6] :: .vec false ⟨.call, u.2.2.1⟩ :: oM (u.2.2.2.1) ((Z41 t.2.1 t.2.2.1 t.2.2.2.1 u.2.2.1 u.2.2.2.1 u.2.2.2.2.1 u.2.2.2.2.2.1 u.2.2.2.2.2.2.1).2) (u.2.2.2.2.2.1) (u.2.2.2.2.2.2.1) [])) (fun t u => []) rfl [0, 1, 2, 3, 5, 6] (by
 intro t u k hk
 simp only [List.mem_cons, List.not_mem_nil, or_false] at hk
 rcases hk with rfl | rfl | rfl | rfl | rfl | rfl
 all_goals exact ⟨by decide, rfl⟩)
noncomputable def Z204 : Env := Z65 (P := Tryz.prog) [Z7c, dD_Room_fact] [] [] ckf
def Z11 (a1 : BA) (b2 : LK) (b3 : LA) (b4 : LB) (b5 : LC) (b6 : LD) : Int × Bool :=
 (((Zd3 a1 b3 b4 b5 b6).1), (Zd3 a1 b3 b4 b5 b6).2)
def Z12b (a1 : BA) (b2 : LK) (b3 : LA) (b4 : LB) (b5 : LC) (b6 : LD) : RT :=
 (.leaf .ret ⟨Za 12 [(4, .int .i64 ((Zd3 a1 b3 b4 b5 b6).1)), (5, .bool ((Zd3 a1 b3 b4 b5 b6).2))], (.cells 61 [.ptr 1 0, .vec 2] :: .cells 87 [.map 3, .map 4, .map 5, .map 6] :: .vec false ⟨.call, b2⟩ :: oM b3 b4 b5 b6 [])⟩ [])
theorem Z1a0 (a1 : BA) (b2 : LK) (b3 : LA) (b4 : LB) (b5 : LC) (b6 : LD)  : Tr Tryz.prog 7 (Z3c Tryz.f24) (Z27 Tryz.f24 [.ptr 0 0, .str a1] (.cells 61 [.ptr 1 0, .vec 2] :: .cells 87 [.map 3, .map 4, .map 5, .map 6] :: .vec false ⟨.call, b2⟩ :: oM b3 b4 b5 b6 [])) (Z48 Tryz.prog Tryz.f24 (.tup [.int .i64 ((Z11 a1 b2 b3 b4 b5 b6).1), .bool ((Z11 a1 b2 b3 b4 b5 b6).2)]) (.cells 61 [.ptr 1 0, .vec 2] :: .cells 87 [.map 3, .map 4, .map 5, .map 6] :: .vec false ⟨.call, b2⟩ :: oM b3 b4 b5 b6 [])) := by
 refine Z2f (kok _ _ _ _ _ _) (E := Z204) (L := Z32) 60 9999 Z14.none (Z12b a1 b2 b3 b4 b5 b6) (by kernel_rfl) (by kernel_rfl) (by kernel_rfl) ?_
 unfold Z12b
 exact ⟨trivial, .inl (by kernel_rfl), by kernel_rfl⟩
noncomputable def Z17d : Fact Tryz.prog := Z4b 24 Tryz.f24 (by kernel_rfl) rfl (by kernel_rfl) [.c (.ptr 0 0), .c (.str)] [.cells 61 [.ptr 1 0, .vec 2], .cells 87 [.map 3, .map 4, .map 5, .map 6], .vec false .call, .map .str (.int .i64), .vols, .map .str .sn, .map .tgt .done] true (fun t u => .tup [.int .i64 ((Z11 t.2.1 u.2.2.1 u.2.2.2.1 u.2.2.2.2.1 u.2.2.2.2.2.1 u.2.2.2.2.2.2.1).1), .bool ((Z11 t.2.1 u.2.2.1 u.2.2.2.1 u.2.2.2.2.1 u.2.2.2.2.2.1 u.2.2.2.2.2.2.1).2)]) (fun t u => HPL.enc _ u) (fun t u => [])
 (fun _ _ _ => rfl) (fun t u => by kernel_rfl) (fun t u => by kernel_rfl) (fun t u h => Z1a0 t.2.1 u.2.2.1 u.2.2.2.1 u.2.2.2.2.1 u.2.2.2.2.2.1 u.2.2.2.2.2.2.1 )
noncomputable def Z189 : Env := Z65 (P := Tryz.prog) [Z7c, dD_Volumes_fact] [] [] ckf true
def Z22 (b2 : LK) (b3 : LA) (b4 : LB) (b5 : LC) (b6 : LD) : LV :=
 Z61 b3 b4 b5 b6
def Zdf (b2 : LK) (b3 : LA) (b4 : LB) (b5 : LC) (b6 : LD) : RT :=
 (.need [VB b4]
   (.leaf .ret ⟨Za 6 [(2, .coll ⟨.vol, Z61 b3 b4 b5 b6⟩)], (.cells 61 [.ptr 1 0, .vec 2] :: .cells 87 [.map 3, .map 4, .map 5, .map 6] :: .vec false ⟨.call, b2⟩ :: oM b3 b4 b5 b6 [])⟩ []))
theorem Z142 (b2 : LK) (b3 : LA) (b4 : LB) (b5 : LC) (b6 : LD) (hp0 : VB b4) : Tr Tryz.prog 7 (Z3c Tryz.f20) (Z27 Tryz.f20 [.ptr 0 0] (.cells 61 [.ptr 1 0, .vec 2] :: .cells 87 [.map 3, .map 4, .map 5, .map 6] :: .vec false ⟨.call, b2⟩ :: oM b3 b4 b5 b6 [])) (Z48 Tryz.prog Tryz.f20 (.coll ⟨.vol, Z22 b2 b3 b4 b5 b6⟩) (.cells 61 [.ptr 1 0, .vec 2] :: .cells 87 [.map 3, .map 4, .map 5, .map 6] :: .vec false ⟨.call, b2⟩ :: oM b3 b4 b5 b6 [])) := by
 refine Z2f (kok _ _ _ _ _ _) (E := Z189) (L := Z32) 60 9999 Z14.none (Zdf b2 b3 b4 b5 b6) (by kernel_rfl) (by kernel_rfl) (by kernel_rfl) ?_
 unfold Zdf
 refine ⟨Z2 (by assumption) (Z9), ?_⟩
 exact ⟨trivial, .inl (by kernel_rfl), by kernel_rfl⟩
noncomputable def Zb3 : Fact Tryz.prog := Z4b 20 Tryz.f20 (by kernel_rfl) rfl (by kernel_rfl) [.c (.ptr 0 0)] [.cells 61 [.ptr 1 0, .vec 2], .cells 87 [.map 3, .map 4, .map 5, .map 6], .vec false .call, .map .str (.int .i64), .vols, .map .str .sn, .map .tgt .done] true (fun t u => .coll ⟨.vol, Z22 u.2.2.1 u.2.2.2.1 u.2.2.2.2.1 u.2.2.2.2.2.1 u.2.2.2.2.2.2.1⟩) (fun t u => HPL.enc _ u) (fun t u => [VB u.2.2.2.2.1])
 (fun _ _ _ => rfl) (fun t u => by kernel_rfl) (fun t u => by kernel_rfl) (fun t u h => Z142 u.2.2.1 u.2.2.2.1 u.2.2.2.2.1 u.2.2.2.2.2.1 u.2.2.2.2.2.2.1 (h _ mS))
noncomputable def Z1ca : Env := Z65 (P := Tryz.prog) [Z7c, dD_Snaps_fact] [] [] ckf true
def Z63 (b2 : LK) (b3 : LA) (b4 : LB) (b5 : LC) (b6 : LD) : LS :=
 Z9c b3 b4 b5 b6
def Z107 (b2 : LK) (b3 : LA) (b4 : LB) (b5 : LC) (b6 : LD) : RT :=
 (.need [NK b5]
   (.leaf .ret ⟨Za 6 [(2, .coll ⟨.snap, Z9c b3 b4 b5 b6⟩)], (.cells 61 [.ptr 1 0, .vec 2] :: .cells 87 [.map 3, .map 4, .map 5, .map 6] :: .vec false ⟨.call, b2⟩ :: oM b3 b4 b5 b6 [])⟩ []))
theorem Z17c (b2 : LK) (b3 : LA) (b4 : LB) (b5 : LC) (b6 : LD) (hp0 : NK b5) : Tr Tryz.prog 7 (Z3c Tryz.f27) (Z27 Tryz.f27 [.ptr 0 0] (.cells 61 [.ptr 1 0, .vec 2] :: .cells 87 [.map 3, .map 4, .map 5, .map 6] :: .vec false ⟨.call, b2⟩ :: oM b3 b4 b5 b6 [])) (Z48 Tryz.prog Tryz.f27 (.coll ⟨.snap, Z63 b2 b3 b4 b5 b6⟩) (.cells 61 [.ptr 1 0, .vec 2] :: .cells 87 [.map 3, .map 4, .map 5, .map 6] :: .vec false ⟨.call, b2⟩ :: oM b3 b4 b5 b6 [])) := by
 refine Z2f (kok _ _ _ _ _ _) (E := Z1ca) (L := Z32) 60 9999 Z14.none (Z107 b2 b3 b4 b5 b6) (by kernel_rfl) (by kernel_rfl) (by kernel_rfl) ?_
 unfold Z107
 refine ⟨Z2 (by assumption) (Z9), ?_⟩
 exact ⟨trivial, .inl (by kernel_rfl), by kernel_rfl⟩
noncomputable def Z152 : Fact Tryz.prog := Z4b 27 Tryz.f27 (by kernel_rfl) rfl (by kernel_rfl) [.c (.ptr 0 0)] [.cells 61 [.ptr 1 0, .vec 2], .cells 87 [.map 3, .map 4, .map 5, .map 6], .vec false .call, .map .str (.int .i64), .vols, .map .str .sn, .map .tgt .done] true (fun t u => .coll ⟨.snap, Z63 u.2.2.1 u.2.2.2.1 u.2.2.2.2.1 u.2.2.2.2.2.1 u.2.2.2.2.2.2.1⟩) (fun t u => HPL.enc _ u) (fun t u => [NK u.2.2.2.2.2.1])
 (fun _ _ _ => rfl) (fun t u => by kernel_rfl) (fun t u => by kernel_rfl) (fun t u h => Z17c u.2.2.1 u.2.2.2.1 u.2.2.2.2.1 u.2.2.2.2.2.1 u.2.2.2.2.2.2.1 (h _ mS))
noncomputable def E_call_New : Env := Z65 (P := Tryz.prog) [Z24e] [] [] ckf true
def Z6 (a0 : LZ) : LK × LA × LB × LC × LD :=
 ([], (Z25 a0).2.1, (Z25 a0).2.2.1, (Z25 a0).2.2.2.1, (Z25 a0).2.2.2.2)
def call_NewR (a0 : LZ) : RT :=
 (.need [a0.length < 4611686018427387904, ∀ z ∈ a0, z.name.size < 4611686018427387904, (Z25 a0).1 = true]
   (.ask true
     (.leaf .ret ⟨Za 12 [(2, .ptr 0 0)], (.cells 61 [.ptr 1 0, .nils] :: .cells 87 [.map 2, .map 3, .map 4, .map 5] :: oM ((Z25 a0).2.1) ((Z25 a0).2.2.1) ((Z25 a0).2.2.2.1) ((Z25 a0).2.2.2.2) [])⟩ [5, 0, 1, 2, 3, 4])
     .fail))
theorem call_NewF_tr (a0 : LZ) (hp0 : a0.length < 4611686018427387904) (hp1 : ∀ z ∈ a0, z.name.size < 4611686018427387904) (hp2 : (Z25 a0).1 = true) : Tr Tryz.prog 0 (Z3c Tryz.f16) (Z27 Tryz.f16 [.coll ⟨.zone, a0⟩] []) (Z48 Tryz.prog Tryz.f16 (.ptr 0 0) (.cells 61 [.ptr 1 0, .vec 2] :: .cells 87 [.map 3, .map 4, .map 5, .map 6] :: .vec false ⟨.call, (Z6 a0).1⟩ :: oM ((Z6 a0).2.1) ((Z6 a0).2.2.1) ((Z6 a0).2.2.2.1) ((Z6 a0).2.2.2.2) [])) := by
 refine Tr.post ?_
 refine Z2f (kok _ _ _ _ _ _) (E := E_call_New) (L := Z32) 60 9999 Z14.none (call_NewR a0) (by kernel_rfl) (by kernel_rfl) (by kernel_rfl) ?_
 unfold call_NewR
 refine ⟨(by (iterate 3 refine Z2 (by assumption) ?_); exact Z9), ?_⟩
 refine ⟨fun h0 => ?_, fun h0 => ?_⟩
 · have hF : Z6 a0 = ([], (Z25 a0).2.1, (Z25 a0).2.2.1, (Z25 a0).2.2.2.1, (Z25 a0).2.2.2.2) := by first | exact rfl | simp only [Z6, h0, cond_true, cond_false]
   exact ⟨_, (Turn.ownNil 0 1 6 .call rfl rfl (by simp [hset, oM, oV])).trans (Turn.fits (p := ⟨Za 12 [(2, .ptr 0 0)], (.cells 61 [.ptr 1 0, .vec 2] :: .cells 87 [.map 3, .map 4, .map 5, .map 6] :: .vec false ⟨.call, []⟩ :: oM ((Z25 a0).2.1) ((Z25 a0).2.2.1) ((Z25 a0).2.2.2.1) ((Z25 a0).2.2.2.2) [])⟩) [0, 1, 6, 2, 3, 4, 5] (by kernel_rfl) (by kernel_rfl) (by kernel_rfl) (by kernel_rfl)), trivial, .inl (by (try rw [hF]); kernel_rfl), by (try rw [hF]); kernel_rfl⟩
 · exact absurd h0 (by simp)
noncomputable def Z1f6 : Fact Tryz.prog := Z4b 16 Tryz.f16 (by kernel_rfl) rfl (by kernel_rfl) [.c (.coll .zone)] [] false (fun t u => .ptr 0 0) (fun t u => (.cells 61 [.ptr 1 0, .vec 2] :: .cells 87 [.map 3, .map 4, .map 5, .map 6] :: .vec false ⟨.call, (Z6 t.1).1⟩ :: oM ((Z6 t.1).2.1) ((Z6 t.1).2.2.1) ((Z6 t.1).2.2.2.1) ((Z6 t.1).2.2.2.2) [])) (fun t u => [t.1.length < 4611686018427387904, ∀ z ∈ t.1, z.name.size < 4611686018427387904, (Z25 t.1).1 = true])
 (nofun) (fun t u => by kernel_rfl) (fun t u => by kernel_rfl) (fun t u h => call_NewF_tr t.1 (h _ mS) (h _ (mN mS)) (h _ (mN (mN mS))))
end Go.Proofs.YtkledlcmhbjadaaGreat
