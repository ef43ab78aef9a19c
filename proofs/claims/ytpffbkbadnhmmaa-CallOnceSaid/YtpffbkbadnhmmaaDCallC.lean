/- The client: its methods. -/
import Derived.Test.YtpffbkbadnhmmaaDCallClone
import Derived.Test.YtpffbkbadnhmmaaDNew
import Derived.Test.YtpffbkbadnhmmaaDVols
set_option linter.unusedVariables false
set_option linter.unusedSimpArgs false
set_option maxRecDepth 100000
namespace Go.Proofs.Ytpffbkbadnhmmaa
open Go Go.Eng
noncomputable def Z1fb : Env := Z62 (P := Try.prog) [Z11c, dD_Do_fact] [] [] ckf true
def Z0 (a1 : XCall) (a2 : Int) (b2 : LK) (b3 : LA) (b4 : LB) (b5 : LC) (b6 : LD) : XRes × LA × LB × LC × LD × LK :=
 cond (cond (!(Z12 a1)) true (decide (a2 > (3 : Int))))
   ((⟨(2 : Int), (0 : Int), (⟨#[]⟩ : BA), (0 : Int)⟩ : XRes), b3, b4, b5, b6, b2)
   (cond (decide ((b2.length : Int) ≥ (4096 : Int)))
     ((⟨(7 : Int), (0 : Int), (⟨#[]⟩ : BA), (0 : Int)⟩ : XRes), b3, b4, b5, b6, b2)
     (cond (a2 == (0 : Int))
       (((Z1a a1 b3 b4 b5 b6).1), (Z1a a1 b3 b4 b5 b6).2.1, (Z1a a1 b3 b4 b5 b6).2.2.1, (Z1a a1 b3 b4 b5 b6).2.2.2.1, (Z1a a1 b3 b4 b5 b6).2.2.2.2, (b2 ++ [a1]))
       (cond (a2 == (2 : Int))
         ((⟨(13 : Int), (0 : Int), (⟨#[]⟩ : BA), (0 : Int)⟩ : XRes), (Z1a a1 b3 b4 b5 b6).2.1, (Z1a a1 b3 b4 b5 b6).2.2.1, (Z1a a1 b3 b4 b5 b6).2.2.2.1, (Z1a a1 b3 b4 b5 b6).2.2.2.2, (b2 ++ [a1]))
         (cond (a2 == (3 : Int))
           ((⟨(13 : Int), (0 : Int), (⟨#[]⟩ : BA), (0 : Int)⟩ : XRes), b3, b4, b5, b6, (b2 ++ [a1]))
           ((⟨(10 : Int), (0 : Int), (⟨#[]⟩ : BA), (0 : Int)⟩ : XRes), b3, b4, b5, b6, (b2 ++ [a1]))))))
def Z121 (a1 : XCall) (a2 : Int) (b2 : LK) (b3 : LA) (b4 : LB) (b5 : LC) (b6 : LD) : RT :=
 (.ask false
   .fail
   (.need [CS a1]
     (.ask (cond (!(Z12 a1)) true (decide (a2 > (3 : Int))))
       (.leaf .ret ⟨Z9 66 [(6, .ptr 7 0)], (.cells 143 [.ptr 1 0, .vec 2] :: .cells 102 [.map 3, .map 4, .map 5, .map 6] :: .vec false ⟨.call, b2⟩ :: oM b3 b4 b5 b6 [.cells 52 [.int .i64 2, .int .i64 0, .str (⟨#[]⟩ : BA), .int .u64 0]])⟩ [0, 1, 2, 3, 4, 5, 6, 8])
       (.ask (decide ((b2.length : Int) ≥ (4096 : Int)))
         (.leaf .ret ⟨Z9 66 [(6, .ptr 7 0)], (.cells 143 [.ptr 1 0, .vec 2] :: .cells 102 [.map 3, .map 4, .map 5, .map 6] :: .vec false ⟨.call, b2⟩ :: oM b3 b4 b5 b6 [.cells 52 [.int .i64 7, .int .i64 0, .str (⟨#[]⟩ : BA), .int .u64 0]])⟩ [0, 1, 2, 3, 4, 5, 6, 8])
         (.need [(b2.length + [a1].length) * 88 ≤ Z16 ∧ b2.length + [a1].length ≤ maxLen]
           (.ask (a2 == (0 : Int))
             (.need [CS a1]
               (.leaf .ret ⟨Z9 66 [(6, .ptr 7 0)], (.cells 143 [.ptr 1 0, .vec 8] :: .cells 102 [.map 3, .map 4, .map 5, .map 6] :: .dead :: oM ((Z1a a1 b3 b4 b5 b6).2.1) ((Z1a a1 b3 b4 b5 b6).2.2.1) ((Z1a a1 b3 b4 b5 b6).2.2.2.1) ((Z1a a1 b3 b4 b5 b6).2.2.2.2) [.cells 52 [.int .i64 (((Z1a a1 b3 b4 b5 b6).1).err), .int .i64 (((Z1a a1 b3 b4 b5 b6).1).size), .str (((Z1a a1 b3 b4 b5 b6).1).zone), .int .u64 (((Z1a a1 b3 b4 b5 b6).1).tag)], .vec false ⟨.call, (b2 ++ [a1])⟩])⟩ [0, 1, 2, 3, 4, 5, 6, 8, 10]))
             (.ask (a2 == (2 : Int))
               (.need [CS a1]
                 (.leaf .ret ⟨Z9 66 [(6, .ptr 7 0)], (.cells 143 [.ptr 1 0, .vec 8] :: .cells 102 [.map 3, .map 4, .map 5, .map 6] :: .dead :: oM ((Z1a a1 b3 b4 b5 b6).2.1) ((Z1a a1 b3 b4 b5 b6).2.2.1) ((Z1a a1 b3 b4 b5 b6).2.2.2.1) ((Z1a a1 b3 b4 b5 b6).2.2.2.2) [.cells 52 [.int .i64 13, .int .i64 0, .str (⟨#[]⟩ : BA), .int .u64 0], .vec false ⟨.call, (b2 ++ [a1])⟩])⟩ [0, 1, 2, 3, 4, 5, 6, 8, 10]))
               (.ask (a2 == (3 : Int))
                 (.leaf .ret ⟨Z9 66 [(6, .ptr 7 0)], (.cells 143 [.ptr 1 0, .vec 8] :: .cells 102 [.map 3, .map 4, .map 5, .map 6] :: .dead :: oM b3 b4 b5 b6 [.cells 52 [.int .i64 13, .int .i64 0, .str (⟨#[]⟩ : BA), .int .u64 0], .vec false ⟨.call, (b2 ++ [a1])⟩])⟩ [0, 1, 2, 3, 4, 5, 6, 8, 10])
                 (.leaf .ret ⟨Z9 66 [(6, .ptr 7 0)], (.cells 143 [.ptr 1 0, .vec 8] :: .cells 102 [.map 3, .map 4, .map 5, .map 6] :: .dead :: oM b3 b4 b5 b6 [.cells 52 [.int .i64 10, .int .i64 0, .str (⟨#[]⟩ : BA), .int .u64 0], .vec false ⟨.call, (b2 ++ [a1])⟩])⟩ [0, 1, 2, 3, 4, 5, 6, 8, 10])))))))))
theorem Z196 (a1 : XCall) (a2 : Int) (b2 : LK) (b3 : LA) (b4 : LB) (b5 : LC) (b6 : LD) (hp0 : CS a1) : Tr Try.prog 7 (Z3b Try.f43) (Z25 Try.f43 [.ptr 0 0, .agg (cc a1), .int .u8 a2] (.cells 143 [.ptr 1 0, .vec 2] :: .cells 102 [.map 3, .map 4, .map 5, .map 6] :: .vec false ⟨.call, b2⟩ :: oM b3 b4 b5 b6 [])) (Z46 Try.prog Try.f43 (.agg [.int .i64 (((Z0 a1 a2 b2 b3 b4 b5 b6).1).err), .int .i64 (((Z0 a1 a2 b2 b3 b4 b5 b6).1).size), .str (((Z0 a1 a2 b2 b3 b4 b5 b6).1).zone), .int .u64 (((Z0 a1 a2 b2 b3 b4 b5 b6).1).tag)]) (.cells 143 [.ptr 1 0, .vec 7] :: .cells 102 [.map 3, .map 4, .map 5, .map 6] :: .dead :: oM ((Z0 a1 a2 b2 b3 b4 b5 b6).2.1) ((Z0 a1 a2 b2 b3 b4 b5 b6).2.2.1) ((Z0 a1 a2 b2 b3 b4 b5 b6).2.2.2.1) ((Z0 a1 a2 b2 b3 b4 b5 b6).2.2.2.2.1) [.vec false ⟨.call, (Z0 a1 a2 b2 b3 b4 b5 b6).2.2.2.2.2⟩])) := by
 refine Tr.post ?_
 refine Z2f (kok _ _ _ _ _ _) (E := Z1fb) (L := Z30) 60 9999 Z13.none (Z121 a1 a2 b2 b3 b4 b5 b6) (by kernel_rfl) (by kernel_rfl) (by kernel_rfl) ?_
 unfold Z121
 refine ⟨fun h0 => ?_, fun h0 => ?_⟩
 · exact absurd h0 (by simp)
 · refine ⟨Z2 (by assumption) (Z7), ?_⟩
   refine ⟨fun h1 => ?_, fun h1 => ?_⟩
   · have hF : Z0 a1 a2 b2 b3 b4 b5 b6 = ((⟨(2 : Int), (0 : Int), (⟨#[]⟩ : BA), (0 : Int)⟩ : XRes), b3, b4, b5, b6, b2) := by first | exact (Z11 h1 rfl) | simp only [Z0, h0, h1, cond_true, cond_false]
     exact ⟨_, (Turn.moveC 0 1 2 8 rfl rfl rfl (by simp [hset, oM, oV])).trans (Turn.fits (p := ⟨Z9 66 [(6, .ptr 8 0)], (.cells 143 [.ptr 1 0, .vec 7] :: .cells 102 [.map 3, .map 4, .map 5, .map 6] :: .dead :: oM b3 b4 b5 b6 [.vec false ⟨.call, b2⟩, .cells 52 [.int .i64 2, .int .i64 0, .str (⟨#[]⟩ : BA), .int .u64 0]])⟩) [0, 1, 2, 3, 4, 5, 6, 8, 7] (by kernel_rfl) (by kernel_rfl) (by kernel_rfl) (by kernel_rfl)), trivial, .inl (by (try rw [hF]); kernel_rfl), by (try rw [hF]); kernel_rfl⟩
   · refine ⟨fun h2 => ?_, fun h2 => ?_⟩
     · have hF : Z0 a1 a2 b2 b3 b4 b5 b6 = ((⟨(7 : Int), (0 : Int), (⟨#[]⟩ : BA), (0 : Int)⟩ : XRes), b3, b4, b5, b6, b2) := by first | exact (Z3 h1 (Z11 h2 rfl)) | simp only [Z0, h0, h1, h2, cond_true, cond_false]
       exact ⟨_, (Turn.moveC 0 1 2 8 rfl rfl rfl (by simp [hset, oM, oV])).trans (Turn.fits (p := ⟨Z9 66 [(6, .ptr 8 0)], (.cells 143 [.ptr 1 0, .vec 7] :: .cells 102 [.map 3, .map 4, .map 5, .map 6] :: .dead :: oM b3 b4 b5 b6 [.vec false ⟨.call, b2⟩, .cells 52 [.int .i64 7, .int .i64 0, .str (⟨#[]⟩ : BA), .int .u64 0]])⟩) [0, 1, 2, 3, 4, 5, 6, 8, 7] (by kernel_rfl) (by kernel_rfl) (by kernel_rfl) (by kernel_rfl)), trivial, .inl (by (try rw [hF]); kernel_rfl), by (try rw [hF]); kernel_rfl⟩
     · refine ⟨Z2 (by (simp only [decide_eq_false_iff_not] at *); unfold Z16 maxLen; (try simp only [List.length_append, List.length_cons, List.length_nil]); omega) (Z7), ?_⟩
       refine ⟨fun h3 => ?_, fun h3 => ?_⟩
       · refine ⟨Z2 (by assumption) (Z7), ?_⟩
         have hF : Z0 a1 a2 b2 b3 b4 b5 b6 = (((Z1a a1 b3 b4 b5 b6).1), (Z1a a1 b3 b4 b5 b6).2.1, (Z1a a1 b3 b4 b5 b6).2.2.1, (Z1a a1 b3 b4 b5 b6).2.2.2.1, (Z1a a1 b3 b4 b5 b6).2.2.2.2, (b2 ++ [a1])) := by first | exact (Z3 h1 (Z3 h2 (Z11 h3 rfl))) | simp only [Z0, h0, h1, h2, h3, cond_true, cond_false]
         exact ⟨_, (Turn.moveC 0 1 8 9 rfl rfl rfl (by simp [hset, oM, oV])).trans (Turn.fits (p := ⟨Z9 66 [(6, .ptr 8 0)], (.cells 143 [.ptr 1 0, .vec 7] :: .cells 102 [.map 3, .map 4, .map 5, .map 6] :: .dead :: oM ((Z1a a1 b3 b4 b5 b6).2.1) ((Z1a a1 b3 b4 b5 b6).2.2.1) ((Z1a a1 b3 b4 b5 b6).2.2.2.1) ((Z1a a1 b3 b4 b5 b6).2.2.2.2) [.vec false ⟨.call, (b2 ++ [a1])⟩, .cells 52 [.int .i64 (((Z1a a1 b3 b4 b5 b6).1).err), .int .i64 (((Z1a a1 b3 b4 b5 b6).1).size), .str (((Z1a a1 b3 b4 b5 b6).1).zone), .int .u64 (((Z1a a1 b3 b4 b5 b6).1).tag)]])⟩) [0, 1, 2, 3, 4, 5, 6, 9, 7] (by kernel_rfl) (by kernel_rfl) (by kernel_rfl) (by kernel_rfl)), trivial, .inl (by (try rw [hF]); kernel_rfl), by (try rw [hF]); kernel_rfl⟩
       · refine ⟨fun h4 => ?_, fun h4 => ?_⟩
         · refine ⟨Z2 (by assumption) (Z7), ?_⟩
           have hF : Z0 a1 a2 b2 b3 b4 b5 b6 = ((⟨(13 : Int), (0 : Int), (⟨#[]⟩ : BA), (0 : Int)⟩ : XRes), (Z1a a1 b3 b4 b5 b6).2.1, (Z1a a1 b3 b4 b5 b6).2.2.1, (Z1a a1 b3 b4 b5 b6).2.2.2.1, (Z1a a1 b3 b4 b5 b6).2.2.2.2, (b2 ++ [a1])) := by first | exact (Z3 h1 (Z3 h2 (Z3 h3 (Z11 h4 rfl)))) | simp only [Z0, h0, h1, h2, h3, h4, cond_true, cond_false]
           exact ⟨_, (Turn.moveC 0 1 8 9 rfl rfl rfl (by simp [hset, oM, oV])).trans (Turn.fits (p := ⟨Z9 66 [(6, .ptr 8 0)], (.cells 143 [.ptr 1 0, .vec 7] :: .cells 102 [.map 3, .map 4, .map 5, .map 6] :: .dead :: oM ((Z1a a1 b3 b4 b5 b6).2.1) ((Z1a a1 b3 b4 b5 b6).2.2.1) ((Z1a a1 b3 b4 b5 b6).2.2.2.1) ((Z1a a1 b3 b4 b5 b6).2.2.2.2) [.vec false ⟨.call, (b2 ++ [a1])⟩, .cells 52 [.int .i64 13, .int .i64 0, .str (⟨#[]⟩ : BA), .int .u64 0]])⟩) [0, 1, 2, 3, 4, 5, 6, 9, 7] (by kernel_rfl) (by kernel_rfl) (by kernel_rfl) (by kernel_rfl)), trivial, .inl (by (try rw [hF]); kernel_rfl), by (try rw [hF]); kernel_rfl⟩
         · refine ⟨fun h5 => ?_, fun h5 => ?_⟩
           · have hF : Z0 a1 a2 b2 b3 b4 b5 b6 = ((⟨(13 : Int), (0 : Int), (⟨#[]⟩ : BA), (0 : Int)⟩ : XRes), b3, b4, b5, b6, (b2 ++ [a1])) := by first | exact (Z3 h1 (Z3 h2 (Z3 h3 (Z3 h4 (Z11 h5 rfl))))) | simp only [Z0, h0, h1, h2, h3, h4, h5, cond_true, cond_false]
             exact ⟨_, (Turn.moveC 0 1 8 9 rfl rfl rfl (by simp [hset, oM, oV])).trans (Turn.fits (p := ⟨Z9 66 [(6, .ptr 8 0)], (.cells 143 [.ptr 1 0, .vec 7] :: .cells 102 [.map 3, .map 4, .map 5, .map 6] :: .dead :: oM b3 b4 b5 b6 [.vec false ⟨.call, (b2 ++ [a1])⟩, .cells 52 [.int .i64 13, .int .i64 0, .str (⟨#[]⟩ : BA), .int .u64 0]])⟩) [0, 1, 2, 3, 4, 5, 6, 9, 7] (by kernel_rfl) (by kernel_rfl) (by kernel_rfl) (by kernel_rfl)), trivial, .inl (by (try rw [hF]); kernel_rfl), by (try rw [hF]); kernel_rfl⟩
           · have hF : Z0 a1 a2 b2 b3 b4 b5 b6 = ((⟨(10 : Int), (0 : Int), (⟨#[]⟩ : BA), (0 : Int)⟩ : XRes), b3, b4, b5, b6, (b2 ++ [a1])) := by first | exact (Z3 h1 (Z3 h2 (Z3 h3 (Z3 h4 (Z3 h5 rfl))))) | simp only [Z0, h0, h1, h2, h3, h4, h5, cond_true, cond_false]
             exact ⟨_, (Turn.moveC 0 1 8 9 rfl rfl rfl (by simp [hset, oM, oV])).trans (Turn.fits (p := ⟨Z9 66 [(6, .ptr 8 0)], (.cells 143 [.ptr 1 0, .vec 7] :: .cells 102 [.map 3, .map 4, .map 5, .map 6] :: .dead :: oM b3 b4 b5 b6 [.vec false ⟨.call, (b2 ++ [a1])⟩, .cells 52 [.int .i64 10, .int .i64 0, .str (⟨#[]⟩ : BA), .int .u64 0]])⟩) [0, 1, 2, 3, 4, 5, 6, 9, 7] (by kernel_rfl) (by kernel_rfl) (by kernel_rfl) (by kernel_rfl)), trivial, .inl (by (try rw [hF]); kernel_rfl), by (try rw [hF]); kernel_rfl⟩
noncomputable def Z14c : Fact Try.prog := Z4f 43 Try.f43 (by kernel_rfl) rfl (by kernel_rfl) [.c (.ptr 0 0), .st .call, .c (.int .u8)] [.cells 143 [.ptr 1 0, .vec 2], .cells 102 [.map 3, .map 4, .map 5, .map 6], .vec false .call, .map .str (.int .i64), .vols, .map .str .sn, .map .tgt .done] false (fun t u => .agg [.int .i64 (((Z0 t.2.1 t.2.2.1 u.2.2.1 u.2.2.2.1 u.2.2.2.2.1 u.2.2.2.2.2.1 u.2.2.2.2.2.2.1).1).err), .int .i64 (((Z0 t.2.1 t.2.2.1 u.2.2.1 u.2.2.2.1 u.2.2.2.2.1 u.2.2.2.2.2.1 u.2.2.2.2.2.2.1).1).size), .str (((Z0 t.2.1 t.2.2.1 u.2.2.1 u.2.2.2.1 u.2.2.2.2.1 u.2.2.2.2.2.1 u.2.2.2.2.2.2.1).1).zone), .int .u64 (((Z0 t.2.1 t.2.2.1 u.2.2.1 u.2.2.2.1 u.2.2.2.2.1 u.2.2.2.2.2.1 u.2.2.2.2.2.2.1).1).tag)]) (fun t u => (.cells 143 [.ptr 1 0, .vec 7] :: .cells 102 [.map 3, .map 4, .map 5, .map 6] :: .dead :: oM ((Z0 t.2.1 t.2.2.1 u.2.2.1 u.2.2.2.1 u.2.2.2.2.1 u.2.2.2.2.2.1 u.2.2.2.2.2.2.1).2.1) ((Z0 t.2.1 t.2.2.1 u.2.2.1 u.2.2.2.1 u.2.2.2.2.1 u.2.2.2.2.2.1 u.2.2.2.2.2.2.1).2.2.1) ((Z0 t.2.1 t.2.2.1 u.2.2.1 u.2.2.2.1 u.2.2.2.2.1 u.2.2.2.2.2.1 u.2.2.2.2.2.2.1).2.2.2.1) ((Z0 t.2.1 t.2.2.1 u.2.2.1 u.2.2.2.1 u.2.2.2.2.1 u.2.2.2.2.2.1 u.2.2.2.2.2.2.1).2.2.2.2.1) [.vec false ⟨.call, (Z0 t.2.1 t.2.2.1 u.2.2.1 u.2.2.2.1 u.2.2.2.2.1 u.2.2.2.2.2.1 u.2.2.2.2.2.2.1).2.2.2.2.2⟩])) (fun t u => [CS t.2.1])
 (nofun) (fun t u => by kernel_rfl) (fun t u => by kernel_rfl) (fun t u h => Z196 t.2.1 t.2.2.1 u.2.2.1 u.2.2.2.1 u.2.2.2.2.1 u.2.2.2.2.2.1 u.2.2.2.2.2.2.1 (h _ mS))
noncomputable def Z8b : Fact Try.prog := Z88 Z14c [.c (.ptr 0 0), .st .call, .c (.int .u8)] [.cells 143 [.ptr 1 0, .vec 2], .cells 102 [.map 3, .map 4, .map 5, .map 6], .vec false .call, .map .str (.int .i64), .vols, .map .str .sn, .map .tgt .done] (fun t u => .agg [.int .i64 (((Z0 t.2.1 t.2.2.1 u.2.2.1 u.2.2.2.1 u.2.2.2.2.1 u.2.2.2.2.2.1 u.2.2.2.2.2.2.1).1).err), .int .i64 (((Z0 t.2.1 t.2.2.1 u.2.2.1 u.2.2.2.1 u.2.2.2.2.1 u.2.2.2.2.2.1 u.2.2.2.2.2.2.1).1).size), .str (((Z0 t.2.1 t.2.2.1 u.2.2.1 u.2.2.2.1 u.2.2.2.2.1 u.2.2.2.2.2.1 u.2.2.2.2.2.2.1).1).zone), .int .u64 (((Z0 t.2.1 t.2.2.1 u.2.2.1 u.2.2.2.1 u.2.2.2.2.1 u.2.2.2.2.2.1 u.2.2.2.2.2.2.1).1).tag)]) (fun t u => (.cells 143 [.ptr 1 0, .vec 7] :: .cells 102 [.map 3, .map 4, .map 5, .map 6] :: .dead :: oM ((Z0 t.2.1 t.2.2.1 u.2.2.1 u.2.2.2.1 u.2.2.2.2.1 u.2.2.2.2.2.1 u.2.2.2.2.2.2.1).2.1) ((Z0 t.2.1 t.2.2.1 u.2.2.1 u.2.2.2.1 u.2.2.2.2.1 u.2.2.2.2.2.1 u.2.2.2.2.2.2.1).2.2.1) ((Z0 t.2.1 t.2.2.1 u.2.2.1 u.2.2.2.1 u.2.2.2.2.1 u.2.2.2.2.2.1 u.2.2.2.2.2.2.1).2.2.2.1) ((Z0 t.2.1 t.2.2.1 u.2.2.1 u.2.2.2.1 u.2.2.2.2.1 u.2.2.2.2.2.1 u.2.2.2.2.2.2.1).2.2.2.2.1) [.vec false ⟨.call, (Z0 t.2.1 t.2.2.1 u.2.2.1 u.2.2.2.1 u.2.2.2.2.1 u.2.2.2.2.2.1 u.2.2.2.2.2.2.1).2.2.2.2.2⟩])) (fun t u => [CS t.2.1]) rfl [1] (by
 intro t u k hk
 obtain rfl := List.mem_singleton.1 hk
 all_goals exact ⟨by decide, rfl⟩)
noncomputable def Z1c4 : Env := Z62 (P := Try.prog) [dD_Do_fact] [] [] ckf true
def Za (a1 : Int) (b2 : LK) (b3 : LA) (b4 : LB) (b5 : LC) (b6 : LD) : Int × LA × LB × LC × LD :=
 cond (cond (decide (a1 < (0 : Int))) true (decide (a1 ≥ (b2.length : Int))))
   ((3 : Int), b3, b4, b5, b6)
   ((0 : Int), (Z1a (b2.getD a1.toNat default) b3 b4 b5 b6).2.1, (Z1a (b2.getD a1.toNat default) b3 b4 b5 b6).2.2.1, (Z1a (b2.getD a1.toNat default) b3 b4 b5 b6).2.2.2.1, (Z1a (b2.getD a1.toNat default) b3 b4 b5 b6).2.2.2.2)
def Z104 (a1 : Int) (b2 : LK) (b3 : LA) (b4 : LB) (b5 : LC) (b6 : LD) : RT :=
 (.ask false
   .fail
   (.ask (cond (decide (a1 < (0 : Int))) true (decide (a1 ≥ (b2.length : Int))))
     (.leaf .ret ⟨Z9 35 [(4, .int .i64 3)], (.cells 143 [.ptr 1 0, .vec 2] :: .cells 102 [.map 3, .map 4, .map 5, .map 6] :: .vec false ⟨.call, b2⟩ :: oM b3 b4 b5 b6 [])⟩ [])
     (.need [0 ≤ a1 ∧ a1 < (b2.length : Int), CS (b2.getD a1.toNat default)]
       (.leaf .ret ⟨Z9 35 [(4, .int .i64 0)], (.cells 143 [.ptr 1 0, .vec 2] :: .cells 102 [.map 3, .map 4, .map 5, .map 6] :: .vec false ⟨.call, b2⟩ :: oM ((Z1a (b2.getD a1.toNat default) b3 b4 b5 b6).2.1) ((Z1a (b2.getD a1.toNat default) b3 b4 b5 b6).2.2.1) ((Z1a (b2.getD a1.toNat default) b3 b4 b5 b6).2.2.2.1) ((Z1a (b2.getD a1.toNat default) b3 b4 b5 b6).2.2.2.2) [])⟩ []))))
theorem Z177 (a1 : Int) (b2 : LK) (b3 : LA) (b4 : LB) (b5 : LC) (b6 : LD) (hp0 : ∀ x ∈ b2, CS x) : Tr Try.prog 7 (Z3b Try.f41) (Z25 Try.f41 [.ptr 0 0, .int .i64 a1] (.cells 143 [.ptr 1 0, .vec 2] :: .cells 102 [.map 3, .map 4, .map 5, .map 6] :: .vec false ⟨.call, b2⟩ :: oM b3 b4 b5 b6 [])) (Z46 Try.prog Try.f41 (.int .i64 ((Za a1 b2 b3 b4 b5 b6).1)) (.cells 143 [.ptr 1 0, .vec 2] :: .cells 102 [.map 3, .map 4, .map 5, .map 6] :: .vec false ⟨.call, b2⟩ :: oM ((Za a1 b2 b3 b4 b5 b6).2.1) ((Za a1 b2 b3 b4 b5 b6).2.2.1) ((Za a1 b2 b3 b4 b5 b6).2.2.2.1) ((Za a1 b2 b3 b4 b5 b6).2.2.2.2) [])) := by
 refine Z2f (kok _ _ _ _ _ _) (E := Z1c4) (L := Z30) 60 9999 Z13.none (Z104 a1 b2 b3 b4 b5 b6) (by kernel_rfl) (by kernel_rfl) (by kernel_rfl) ?_
 unfold Z104
 refine ⟨fun h0 => ?_, fun h0 => ?_⟩
 · exact absurd h0 (by simp)
 · refine ⟨fun h1 => ?_, fun h1 => ?_⟩
   · have hF : Za a1 b2 b3 b4 b5 b6 = ((3 : Int), b3, b4, b5, b6) := by first | exact (Z11 h1 rfl) | simp only [Za, h0, h1, cond_true, cond_false]
     exact ⟨trivial, .inl (by (try rw [hF]); kernel_rfl), by (try rw [hF]); kernel_rfl⟩
   · refine ⟨Z2 (by (try simp only [Bool.cond_true_left, Bool.or_eq_false_iff, decide_eq_false_iff_not] at *); first | omega | (constructor <;> omega)) (Z2 (by (try simp only [Bool.cond_true_left, Bool.or_eq_false_iff, decide_eq_false_iff_not] at *); exact hp0 _ (Zf0 (by omega) (by omega))) (Z7)), ?_⟩
     have hF : Za a1 b2 b3 b4 b5 b6 = ((0 : Int), (Z1a (b2.getD a1.toNat default) b3 b4 b5 b6).2.1, (Z1a (b2.getD a1.toNat default) b3 b4 b5 b6).2.2.1, (Z1a (b2.getD a1.toNat default) b3 b4 b5 b6).2.2.2.1, (Z1a (b2.getD a1.toNat default) b3 b4 b5 b6).2.2.2.2) := by first | exact (Z3 h1 rfl) | simp only [Za, h0, h1, cond_true, cond_false]
     exact ⟨trivial, .inl (by (try rw [hF]); kernel_rfl), by (try rw [hF]); kernel_rfl⟩
noncomputable def Z139 : Fact Try.prog := Z4f 41 Try.f41 (by kernel_rfl) rfl (by kernel_rfl) [.c (.ptr 0 0), .c (.int .i64)] [.cells 143 [.ptr 1 0, .vec 2], .cells 102 [.map 3, .map 4, .map 5, .map 6], .vec false .call, .map .str (.int .i64), .vols, .map .str .sn, .map .tgt .done] false (fun t u => .int .i64 ((Za t.2.1 u.2.2.1 u.2.2.2.1 u.2.2.2.2.1 u.2.2.2.2.2.1 u.2.2.2.2.2.2.1).1)) (fun t u => (.cells 143 [.ptr 1 0, .vec 2] :: .cells 102 [.map 3, .map 4, .map 5, .map 6] :: .vec false ⟨.call, u.2.2.1⟩ :: oM ((Za t.2.1 u.2.2.1 u.2.2.2.1 u.2.2.2.2.1 u.2.2.2.2.2.1 u.2.2.2.2.2.2.1).2.1) ((Za t.2.1 u.2.2.1 u.2.2.2.1 u.2.2.2.2.1 u.2.2.2.2.2.1 u.2.2.2.2.2.2.1).2.2.1) ((Za t.2.1 u.2.2.1 u.2.2.2.1 u.2.2.2.2.1 u.2.2.2.2.2.1 u.2.2.2.2.2.2.1).2.2.2.1) ((Za t.2.1 u.2.2.1 u.2.2.2.1 u.2.2.2.2.1 u.2.2.2.2.2.1 u.2.2.2.2.2.2.1).2.2.2.2) [])) (fun t u => [∀ x ∈ u.2.2.1, CS x])
 (nofun) (fun t u => by kernel_rfl) (fun t u => by kernel_rfl) (fun t u h => Z177 t.2.1 u.2.2.1 u.2.2.2.1 u.2.2.2.2.1 u.2.2.2.2.2.1 u.2.2.2.2.2.2.1 (h _ mS))
noncomputable def Z14e : Fact Try.prog := Z88 Z139 [.c (.ptr 0 0), .c (.int .i64)] [.cells 143 [.ptr 1 0, .vec 2], .cells 102 [.map 3, .map 4, .map 5, .map 6], .vec false .call, .map .str (.int .i64), .vols, .map .str .sn, .map .tgt .done] (fun t u => .int .i64 ((Za t.2.1 u.2.2.1 u.2.2.2.1 u.2.2.2.2.1 u.2.2.2.2.2.1 u.2.2.2.2.2.2.1).1)) (fun t u => (.cells 143 [.ptr 1 0, .vec 2] :: .cells 102 [.map 3, .map 4, .map 5, .map 6] :: .vec false ⟨.call, u.2.2.1⟩ :: oM ((Za t.2.1 u.2.2.1 u.2.2.2.1 u.2.2.2.2.1 u.2.2.2.2.2.1 u.2.2.2.2.2.2.1).2.1) ((Za t.2.1 u.2.2.1 u.2.2.2.1 u.2.2.2.2.1 u.2.2.2.2.2.1 u.2.2.2.2.2.2.1).2.2.1) ((Za t.2.1 u.2.2.1 u.2.2.2.1 u.2.2.2.2.1 u.2.2.2.2.2.1 u.2.2.2.2.2.2.1).2.2.2.1) ((Za t.2.1 u.2.2.1 u.2.2.2.1 u.2.2.2.2.1 u.2.2.2.2.2.1 u.2.2.2.2.2.2.1).2.2.2.2) [])) (fun t u => [∀ x ∈ u.2.2.1, CS x]) rfl [0, 1, 2] (by
 intro t u k hk
 simp only [List.mem_cons, List.not_mem_nil, or_false] at hk
 rcases hk with rfl | rfl | rfl
 all_goals exact ⟨by decide, rfl⟩)
noncomputable def Z1fa : Env := Z62 (P := Try.prog) [cloneA_fact] [] [] ckf true
def Z44 (b2 : LK) (b3 : LA) (b4 : LB) (b5 : LC) (b6 : LD) : LK :=
 b2
def Z120 (b2 : LK) (b3 : LA) (b4 : LB) (b5 : LC) (b6 : LD) : RT :=
 (.ask false
   .fail
   (.need [b2.length ≤ 1000000]
     (.leaf .ret ⟨Z9 11 [(2, .vec 7)], (.cells 143 [.ptr 1 0, .vec 2] :: .cells 102 [.map 3, .map 4, .map 5, .map 6] :: .vec false ⟨.call, b2⟩ :: oM b3 b4 b5 b6 [.vec false ⟨.call, b2⟩])⟩ [0, 1, 2, 3, 4, 5, 6, 8])))
theorem Z195 (b2 : LK) (b3 : LA) (b4 : LB) (b5 : LC) (b6 : LD) (hp0 : b2.length ≤ 1000000) : Tr Try.prog 7 (Z3b Try.f40) (Z25 Try.f40 [.ptr 0 0] (.cells 143 [.ptr 1 0, .vec 2] :: .cells 102 [.map 3, .map 4, .map 5, .map 6] :: .vec false ⟨.call, b2⟩ :: oM b3 b4 b5 b6 [])) (Z46 Try.prog Try.f40 (.coll ⟨.call, Z44 b2 b3 b4 b5 b6⟩) (.cells 143 [.ptr 1 0, .vec 2] :: .cells 102 [.map 3, .map 4, .map 5, .map 6] :: .vec false ⟨.call, b2⟩ :: oM b3 b4 b5 b6 [])) := by
 refine Tr.post ?_
 refine Z2f (kok _ _ _ _ _ _) (E := Z1fa) (L := Z30) 60 9999 Z13.none (Z120 b2 b3 b4 b5 b6) (by kernel_rfl) (by kernel_rfl) (by kernel_rfl) ?_
 unfold Z120
 refine ⟨fun h0 => ?_, fun h0 => ?_⟩
 · exact absurd h0 (by simp)
 · refine ⟨Z2 (by assumption) (Z7), ?_⟩
   have hF : Z44 b2 b3 b4 b5 b6 = b2 := by first | exact rfl | simp only [Z44, h0, cond_true, cond_false]
   exact ⟨_, Turn.frz 7 rfl, trivial, .inr (by (try rw [hF]); kernel_rfl), by (try rw [hF]); kernel_rfl⟩
noncomputable def Zd8 : Fact Try.prog := Z4f 40 Try.f40 (by kernel_rfl) rfl (by kernel_rfl) [.c (.ptr 0 0)] [.cells 143 [.ptr 1 0, .vec 2], .cells 102 [.map 3, .map 4, .map 5, .map 6], .vec false .call, .map .str (.int .i64), .vols, .map .str .sn, .map .tgt .done] true (fun t u => .coll ⟨.call, Z44 u.2.2.1 u.2.2.2.1 u.2.2.2.2.1 u.2.2.2.2.2.1 u.2.2.2.2.2.2.1⟩) (fun t u => HPL.enc _ u) (fun t u => [u.2.2.1.length ≤ 1000000])
 (fun _ _ _ => rfl) (fun t u => by kernel_rfl) (fun t u => by kernel_rfl) (fun t u h => Z195 u.2.2.1 u.2.2.2.1 u.2.2.2.2.1 u.2.2.2.2.2.1 u.2.2.2.2.2.2.1 (h _ mS))
noncomputable def Z19b : Env := Z62 (P := Try.prog) [] [] [] ckf
def Zf3 (b2 : LK) (b3 : LA) (b4 : LB) (b5 : LC) (b6 : LD) : RT :=
 (.ask false
   .fail
   (.leaf .ret ⟨Z9 10 [(2, .ptr 1 0)], (.cells 143 [.ptr 1 0, .vec 2] :: .cells 102 [.map 3, .map 4, .map 5, .map 6] :: .vec false ⟨.call, b2⟩ :: oM b3 b4 b5 b6 [])⟩ []))
theorem Z14a (b2 : LK) (b3 : LA) (b4 : LB) (b5 : LC) (b6 : LD)  : Tr Try.prog 7 (Z3b Try.f81) (Z25 Try.f81 [.ptr 0 0] (.cells 143 [.ptr 1 0, .vec 2] :: .cells 102 [.map 3, .map 4, .map 5, .map 6] :: .vec false ⟨.call, b2⟩ :: oM b3 b4 b5 b6 [])) (Z46 Try.prog Try.f81 (.ptr 1 0) (.cells 143 [.ptr 1 0, .vec 2] :: .cells 102 [.map 3, .map 4, .map 5, .map 6] :: .vec false ⟨.call, b2⟩ :: oM b3 b4 b5 b6 [])) := by
 refine Z2f (kok _ _ _ _ _ _) (E := Z19b) (L := Z30) 60 9999 Z13.none (Zf3 b2 b3 b4 b5 b6) (by kernel_rfl) (by kernel_rfl) (by kernel_rfl) ?_
 unfold Zf3
 refine ⟨fun h0 => ?_, fun h0 => ?_⟩
 · exact absurd h0 (by simp)
 · exact ⟨trivial, .inl (by kernel_rfl), by kernel_rfl⟩
noncomputable def Z7b : Fact Try.prog := Z4f 81 Try.f81 (by kernel_rfl) rfl (by kernel_rfl) [.c (.ptr 0 0)] [.cells 143 [.ptr 1 0, .vec 2], .cells 102 [.map 3, .map 4, .map 5, .map 6], .vec false .call, .map .str (.int .i64), .vols, .map .str .sn, .map .tgt .done] true (fun t u => .ptr 1 0) (fun t u => HPL.enc _ u) (fun t u => [])
 (fun _ _ _ => rfl) (fun t u => by kernel_rfl) (fun t u => by kernel_rfl) (fun t u h => Z14a u.2.2.1 u.2.2.2.1 u.2.2.2.2.1 u.2.2.2.2.2.1 u.2.2.2.2.2.2.1 )
noncomputable def Z226 : Env := Z62 (P := Try.prog) [Z7b, dD_Put_fact] [] [] ckf
def Z3d (a1 : BA) (a2 : BA) (a3 : Int) (b2 : LK) (b3 : LA) (b4 : LB) (b5 : LC) (b6 : LD) : Int × LB :=
 (((Z90 a1 a2 a3 b3 b4 b5 b6).1), (Z90 a1 a2 a3 b3 b4 b5 b6).2)
def Z145 (a1 : BA) (a2 : BA) (a3 : Int) (b2 : LK) (b3 : LA) (b4 : LB) (b5 : LC) (b6 : LD) : RT :=
 (.leaf .ret ⟨Z9 15 [(8, .int .i64 ((Z90 a1 a2 a3 b3 b4 b5 b6).1))], (.cells 143 [.ptr 1 0, .vec 2] :: .cells 102 [.map 3, .map 4, .map 5, .map 6] :: .vec false ⟨.call, b2⟩ :: oM b3 ((Z90 a1 a2 a3 b3 b4 b5 b6).2) b5 b6 [])⟩ [])
theorem Z1c1 (a1 : BA) (a2 : BA) (a3 : Int) (b2 : LK) (b3 : LA) (b4 : LB) (b5 : LC) (b6 : LD)  : Tr Try.prog 7 (Z3b Try.f48) (Z25 Try.f48 [.ptr 0 0, .str a1, .str a2, .int .u64 a3] (.cells 143 [.ptr 1 0, .vec 2] :: .cells 102 [.map 3, .map 4, .map 5, .map 6] :: .vec false ⟨.call, b2⟩ :: oM b3 b4 b5 b6 [])) (Z46 Try.prog Try.f48 (.int .i64 ((Z3d a1 a2 a3 b2 b3 b4 b5 b6).1)) (.cells 143 [.ptr 1 0, .vec 2] :: .cells 102 [.map 3, .map 4, .map 5, .map 6] :: .vec false ⟨.call, b2⟩ :: oM b3 ((Z3d a1 a2 a3 b2 b3 b4 b5 b6).2) b5 b6 [])) := by
 refine Z2f (kok _ _ _ _ _ _) (E := Z226) (L := Z30) 60 9999 Z13.none (Z145 a1 a2 a3 b2 b3 b4 b5 b6) (by kernel_rfl) (by kernel_rfl) (by kernel_rfl) ?_
 unfold Z145
 exact ⟨trivial, .inl (by kernel_rfl), by kernel_rfl⟩
noncomputable def Z176 : Fact Try.prog := Z4f 48 Try.f48 (by kernel_rfl) rfl (by kernel_rfl) [.c (.ptr 0 0), .c (.str), .c (.str), .c (.int .u64)] [.cells 143 [.ptr 1 0, .vec 2], .cells 102 [.map 3, .map 4, .map 5, .map 6], .vec false .call, .map .str (.int .i64), .vols, .map .str .sn, .map .tgt .done] false (fun t u => .int .i64 ((Z3d t.2.1 t.2.2.1 t.2.2.2.1 u.2.2.1 u.2.2.2.1 u.2.2.2.2.1 u.2.2.2.2.2.1 u.2.2.2.2.2.2.1).1)) (fun t u => (.cells 143 [.ptr 1 0, .vec 2] :: .cells 102 [.map 3, .map 4, .map 5, .map 6] :: .vec false ⟨.call, u.2.2.1⟩ :: oM (u.2.2.2.1) ((Z3d t.2.1 t.2.2.1 t.2.2.2.1 u.2.2.1 u.2.2.2.1 u.2.2.2.2.1 u.2.2.2.2.2.1 u.2.2.2.2.2.2.1).2) (u.2.2.2.2.2.1) (u.2.2.2.2.2.2.1) [])) (fun t u => [])
 (nofun) (fun t u => by kernel_rfl) (fun t u => by kernel_rfl) (fun t u h => Z1c1 t.2.1 t.2.2.1 t.2.2.2.1 u.2.2.1 u.2.2.2.1 u.2.2.2.2.1 u.2.2.2.2.2.1 u.2.2.2.2.2.2.1 )
noncomputable def Z198 : Fact Try.prog := Z88 Z176 [.c (.ptr 0 0), .c (.str), .c (.str), .c (.int .u64)] [.cells 143 [.ptr 1 0, .vec 2], .cells 102 [.map 3, .map 4, .map 5, .map 6], .vec false .call, .map .str (.int .i64), .vols, .map .str .sn, .map .tgt .done] (fun t u => .int .i64 ((Z3d t.2.1 t.2.2.1 t.2.2.2.1 u.2.2.1 u.2.2.2.1 u.2.2.2.2.1 u.2.2.2.2.2.1 u.2.2.2.2.2.2.1).1)) (fun t u => (.cells 143 [.ptr 1 0, .vec 2] :: .cells 102 [.map 3, .map 4, .map 5, .map 6] :: .vec false ⟨.call, u.2.2.1⟩ :: oM (u.2.2.2.1) ((Z3d t.2.1 t.2.2.1 t.2.2.2.1 u.2.2.1 u.2.2.2.1 u.2.2.2.2.1 u.2.2.2.2.2.1 u.2.2.2.2.2.2.1).2) (u.2.2.2.2.2.1) (u.2.2.2.2.2.2.1) [])) (fun t u => []) rfl [0, 1, 2, 3, 5, 6] (by
 intro t u k hk
 simp only [List.mem_cons, List.not_mem_nil, or_false] at hk
 rcases hk with rfl | rfl | rfl | rfl | rfl | rfl
 all_goals exact ⟨by decide, rfl⟩)
noncomputable def Z1fc : Env := Z62 (P := Try.prog) [Z7b, dD_Room_fact] [] [] ckf
def Z41 (a1 : BA) (b2 : LK) (b3 : LA) (b4 : LB) (b5 : LC) (b6 : LD) : Int × Bool :=
 (((Zcf a1 b3 b4 b5 b6).1), (Zcf a1 b3 b4 b5 b6).2)
def Z122 (a1 : BA) (b2 : LK) (b3 : LA) (b4 : LB) (b5 : LC) (b6 : LD) : RT :=
 (.leaf .ret ⟨Z9 12 [(4, .int .i64 ((Zcf a1 b3 b4 b5 b6).1)), (5, .bool ((Zcf a1 b3 b4 b5 b6).2))], (.cells 143 [.ptr 1 0, .vec 2] :: .cells 102 [.map 3, .map 4, .map 5, .map 6] :: .vec false ⟨.call, b2⟩ :: oM b3 b4 b5 b6 [])⟩ [])
theorem Z197 (a1 : BA) (b2 : LK) (b3 : LA) (b4 : LB) (b5 : LC) (b6 : LD)  : Tr Try.prog 7 (Z3b Try.f47) (Z25 Try.f47 [.ptr 0 0, .str a1] (.cells 143 [.ptr 1 0, .vec 2] :: .cells 102 [.map 3, .map 4, .map 5, .map 6] :: .vec false ⟨.call, b2⟩ :: oM b3 b4 b5 b6 [])) (Z46 Try.prog Try.f47 (.tup [.int .i64 ((Z41 a1 b2 b3 b4 b5 b6).1), .bool ((Z41 a1 b2 b3 b4 b5 b6).2)]) (.cells 143 [.ptr 1 0, .vec 2] :: .cells 102 [.map 3, .map 4, .map 5, .map 6] :: .vec false ⟨.call, b2⟩ :: oM b3 b4 b5 b6 [])) := by
 refine Z2f (kok _ _ _ _ _ _) (E := Z1fc) (L := Z30) 60 9999 Z13.none (Z122 a1 b2 b3 b4 b5 b6) (by kernel_rfl) (by kernel_rfl) (by kernel_rfl) ?_
 unfold Z122
 exact ⟨trivial, .inl (by kernel_rfl), by kernel_rfl⟩
noncomputable def Z175 : Fact Try.prog := Z4f 47 Try.f47 (by kernel_rfl) rfl (by kernel_rfl) [.c (.ptr 0 0), .c (.str)] [.cells 143 [.ptr 1 0, .vec 2], .cells 102 [.map 3, .map 4, .map 5, .map 6], .vec false .call, .map .str (.int .i64), .vols, .map .str .sn, .map .tgt .done] true (fun t u => .tup [.int .i64 ((Z41 t.2.1 u.2.2.1 u.2.2.2.1 u.2.2.2.2.1 u.2.2.2.2.2.1 u.2.2.2.2.2.2.1).1), .bool ((Z41 t.2.1 u.2.2.1 u.2.2.2.1 u.2.2.2.2.1 u.2.2.2.2.2.1 u.2.2.2.2.2.2.1).2)]) (fun t u => HPL.enc _ u) (fun t u => [])
 (fun _ _ _ => rfl) (fun t u => by kernel_rfl) (fun t u => by kernel_rfl) (fun t u h => Z197 t.2.1 u.2.2.1 u.2.2.2.1 u.2.2.2.2.1 u.2.2.2.2.2.1 u.2.2.2.2.2.2.1 )
noncomputable def Z17f : Env := Z62 (P := Try.prog) [Z7b, dD_Volumes_fact] [] [] ckf true
def Z1e (b2 : LK) (b3 : LA) (b4 : LB) (b5 : LC) (b6 : LD) : LV :=
 Z4e b3 b4 b5 b6
def Zdb (b2 : LK) (b3 : LA) (b4 : LB) (b5 : LC) (b6 : LD) : RT :=
 (.need [VB b4]
   (.leaf .ret ⟨Z9 6 [(2, .coll ⟨.vol, Z4e b3 b4 b5 b6⟩)], (.cells 143 [.ptr 1 0, .vec 2] :: .cells 102 [.map 3, .map 4, .map 5, .map 6] :: .vec false ⟨.call, b2⟩ :: oM b3 b4 b5 b6 [])⟩ []))
theorem Z138 (b2 : LK) (b3 : LA) (b4 : LB) (b5 : LC) (b6 : LD) (hp0 : VB b4) : Tr Try.prog 7 (Z3b Try.f49) (Z25 Try.f49 [.ptr 0 0] (.cells 143 [.ptr 1 0, .vec 2] :: .cells 102 [.map 3, .map 4, .map 5, .map 6] :: .vec false ⟨.call, b2⟩ :: oM b3 b4 b5 b6 [])) (Z46 Try.prog Try.f49 (.coll ⟨.vol, Z1e b2 b3 b4 b5 b6⟩) (.cells 143 [.ptr 1 0, .vec 2] :: .cells 102 [.map 3, .map 4, .map 5, .map 6] :: .vec false ⟨.call, b2⟩ :: oM b3 b4 b5 b6 [])) := by
 refine Z2f (kok _ _ _ _ _ _) (E := Z17f) (L := Z30) 60 9999 Z13.none (Zdb b2 b3 b4 b5 b6) (by kernel_rfl) (by kernel_rfl) (by kernel_rfl) ?_
 unfold Zdb
 refine ⟨Z2 (by assumption) (Z7), ?_⟩
 exact ⟨trivial, .inl (by kernel_rfl), by kernel_rfl⟩
noncomputable def Zb2 : Fact Try.prog := Z4f 49 Try.f49 (by kernel_rfl) rfl (by kernel_rfl) [.c (.ptr 0 0)] [.cells 143 [.ptr 1 0, .vec 2], .cells 102 [.map 3, .map 4, .map 5, .map 6], .vec false .call, .map .str (.int .i64), .vols, .map .str .sn, .map .tgt .done] true (fun t u => .coll ⟨.vol, Z1e u.2.2.1 u.2.2.2.1 u.2.2.2.2.1 u.2.2.2.2.2.1 u.2.2.2.2.2.2.1⟩) (fun t u => HPL.enc _ u) (fun t u => [VB u.2.2.2.2.1])
 (fun _ _ _ => rfl) (fun t u => by kernel_rfl) (fun t u => by kernel_rfl) (fun t u h => Z138 u.2.2.1 u.2.2.2.1 u.2.2.2.2.1 u.2.2.2.2.2.1 u.2.2.2.2.2.2.1 (h _ mS))
noncomputable def Z1c3 : Env := Z62 (P := Try.prog) [Z7b, dD_Snaps_fact] [] [] ckf true
def Z5e (b2 : LK) (b3 : LA) (b4 : LB) (b5 : LC) (b6 : LD) : LS :=
 Z89 b3 b4 b5 b6
def Z103 (b2 : LK) (b3 : LA) (b4 : LB) (b5 : LC) (b6 : LD) : RT :=
 (.need [NK b5]
   (.leaf .ret ⟨Z9 6 [(2, .coll ⟨.snap, Z89 b3 b4 b5 b6⟩)], (.cells 143 [.ptr 1 0, .vec 2] :: .cells 102 [.map 3, .map 4, .map 5, .map 6] :: .vec false ⟨.call, b2⟩ :: oM b3 b4 b5 b6 [])⟩ []))
theorem Z174 (b2 : LK) (b3 : LA) (b4 : LB) (b5 : LC) (b6 : LD) (hp0 : NK b5) : Tr Try.prog 7 (Z3b Try.f50) (Z25 Try.f50 [.ptr 0 0] (.cells 143 [.ptr 1 0, .vec 2] :: .cells 102 [.map 3, .map 4, .map 5, .map 6] :: .vec false ⟨.call, b2⟩ :: oM b3 b4 b5 b6 [])) (Z46 Try.prog Try.f50 (.coll ⟨.snap, Z5e b2 b3 b4 b5 b6⟩) (.cells 143 [.ptr 1 0, .vec 2] :: .cells 102 [.map 3, .map 4, .map 5, .map 6] :: .vec false ⟨.call, b2⟩ :: oM b3 b4 b5 b6 [])) := by
 refine Z2f (kok _ _ _ _ _ _) (E := Z1c3) (L := Z30) 60 9999 Z13.none (Z103 b2 b3 b4 b5 b6) (by kernel_rfl) (by kernel_rfl) (by kernel_rfl) ?_
 unfold Z103
 refine ⟨Z2 (by assumption) (Z7), ?_⟩
 exact ⟨trivial, .inl (by kernel_rfl), by kernel_rfl⟩
noncomputable def Z14b : Fact Try.prog := Z4f 50 Try.f50 (by kernel_rfl) rfl (by kernel_rfl) [.c (.ptr 0 0)] [.cells 143 [.ptr 1 0, .vec 2], .cells 102 [.map 3, .map 4, .map 5, .map 6], .vec false .call, .map .str (.int .i64), .vols, .map .str .sn, .map .tgt .done] true (fun t u => .coll ⟨.snap, Z5e u.2.2.1 u.2.2.2.1 u.2.2.2.2.1 u.2.2.2.2.2.1 u.2.2.2.2.2.2.1⟩) (fun t u => HPL.enc _ u) (fun t u => [NK u.2.2.2.2.2.1])
 (fun _ _ _ => rfl) (fun t u => by kernel_rfl) (fun t u => by kernel_rfl) (fun t u h => Z174 u.2.2.1 u.2.2.2.1 u.2.2.2.2.1 u.2.2.2.2.2.1 u.2.2.2.2.2.2.1 (h _ mS))
noncomputable def E_call_New : Env := Z62 (P := Try.prog) [Z246] [] [] ckf true
def Z6 (a0 : LZ) : LK × LA × LB × LC × LD :=
 ([], (Z23 a0).2.1, (Z23 a0).2.2.1, (Z23 a0).2.2.2.1, (Z23 a0).2.2.2.2)
def call_NewR (a0 : LZ) : RT :=
 (.need [a0.length < 4611686018427387904, ∀ z ∈ a0, z.name.size < 4611686018427387904, (Z23 a0).1 = true]
   (.ask true
     (.leaf .ret ⟨Z9 12 [(2, .ptr 0 0)], (.cells 143 [.ptr 1 0, .nils] :: .cells 102 [.map 2, .map 3, .map 4, .map 5] :: oM ((Z23 a0).2.1) ((Z23 a0).2.2.1) ((Z23 a0).2.2.2.1) ((Z23 a0).2.2.2.2) [])⟩ [5, 0, 1, 2, 3, 4])
     .fail))
theorem call_NewF_tr (a0 : LZ) (hp0 : a0.length < 4611686018427387904) (hp1 : ∀ z ∈ a0, z.name.size < 4611686018427387904) (hp2 : (Z23 a0).1 = true) : Tr Try.prog 0 (Z3b Try.f51) (Z25 Try.f51 [.coll ⟨.zone, a0⟩] []) (Z46 Try.prog Try.f51 (.ptr 0 0) (.cells 143 [.ptr 1 0, .vec 2] :: .cells 102 [.map 3, .map 4, .map 5, .map 6] :: .vec false ⟨.call, (Z6 a0).1⟩ :: oM ((Z6 a0).2.1) ((Z6 a0).2.2.1) ((Z6 a0).2.2.2.1) ((Z6 a0).2.2.2.2) [])) := by
 refine Tr.post ?_
 refine Z2f (kok _ _ _ _ _ _) (E := E_call_New) (L := Z30) 60 9999 Z13.none (call_NewR a0) (by kernel_rfl) (by kernel_rfl) (by kernel_rfl) ?_
 unfold call_NewR
 refine ⟨(by (iterate 3 refine Z2 (by assumption) ?_); exact Z7), ?_⟩
 refine ⟨fun h0 => ?_, fun h0 => ?_⟩
 · have hF : Z6 a0 = ([], (Z23 a0).2.1, (Z23 a0).2.2.1, (Z23 a0).2.2.2.1, (Z23 a0).2.2.2.2) := by first | exact rfl | simp only [Z6, h0, cond_true, cond_false]
   exact ⟨_, (Turn.ownNil 0 1 6 .call rfl rfl (by simp [hset, oM, oV])).trans (Turn.fits (p := ⟨Z9 12 [(2, .ptr 0 0)], (.cells 143 [.ptr 1 0, .vec 2] :: .cells 102 [.map 3, .map 4, .map 5, .map 6] :: .vec false ⟨.call, []⟩ :: oM ((Z23 a0).2.1) ((Z23 a0).2.2.1) ((Z23 a0).2.2.2.1) ((Z23 a0).2.2.2.2) [])⟩) [0, 1, 6, 2, 3, 4, 5] (by kernel_rfl) (by kernel_rfl) (by kernel_rfl) (by kernel_rfl)), trivial, .inl (by (try rw [hF]); kernel_rfl), by (try rw [hF]); kernel_rfl⟩
 · exact absurd h0 (by simp)
noncomputable def Z1ef : Fact Try.prog := Z4f 51 Try.f51 (by kernel_rfl) rfl (by kernel_rfl) [.c (.coll .zone)] [] false (fun t u => .ptr 0 0) (fun t u => (.cells 143 [.ptr 1 0, .vec 2] :: .cells 102 [.map 3, .map 4, .map 5, .map 6] :: .vec false ⟨.call, (Z6 t.1).1⟩ :: oM ((Z6 t.1).2.1) ((Z6 t.1).2.2.1) ((Z6 t.1).2.2.2.1) ((Z6 t.1).2.2.2.2) [])) (fun t u => [t.1.length < 4611686018427387904, ∀ z ∈ t.1, z.name.size < 4611686018427387904, (Z23 t.1).1 = true])
 (nofun) (fun t u => by kernel_rfl) (fun t u => by kernel_rfl) (fun t u h => call_NewF_tr t.1 (h _ mS) (h _ (mN mS)) (h _ (mN (mN mS))))
end Go.Proofs.Ytpffbkbadnhmmaa
