/- The client: its methods. -/
import Derived.Test.YtpffbkbadnhmmaaDCallClone
import Derived.Test.YtpffbkbadnhmmaaDNew
import Derived.Test.YtpffbkbadnhmmaaDVols
set_option linter.unusedVariables false
set_option linter.unusedSimpArgs false
set_option maxRecDepth 100000
namespace Go.Proofs.Ytpffbkbadnhmmaa
open Go Go.Eng
noncomputable def E_call_Client_Send : Env := envOf (P := Try.prog) [Zc8, dD_Do_fact] [] [] ckf true
def Z1 (a1 : XCall) (a2 : Int) (b2 : LK) (b3 : LA) (b4 : LB) (b5 : LC) (b6 : LD) : XRes × LA × LB × LC × LD × LK :=
 cond (cond (!(Z15 a1)) true (decide (a2 > (3 : Int))))
   ((⟨(2 : Int), (0 : Int), (⟨#[]⟩ : BA), (0 : Int)⟩ : XRes), b3, b4, b5, b6, b2)
   (cond (decide ((b2.length : Int) ≥ (4096 : Int)))
     ((⟨(7 : Int), (0 : Int), (⟨#[]⟩ : BA), (0 : Int)⟩ : XRes), b3, b4, b5, b6, b2)
     (cond (a2 == (0 : Int))
       (((Z1e a1 b3 b4 b5 b6).1), (Z1e a1 b3 b4 b5 b6).2.1, (Z1e a1 b3 b4 b5 b6).2.2.1, (Z1e a1 b3 b4 b5 b6).2.2.2.1, (Z1e a1 b3 b4 b5 b6).2.2.2.2, (b2 ++ [a1]))
       (cond (a2 == (2 : Int))
         ((⟨(13 : Int), (0 : Int), (⟨#[]⟩ : BA), (0 : Int)⟩ : XRes), (Z1e a1 b3 b4 b5 b6).2.1, (Z1e a1 b3 b4 b5 b6).2.2.1, (Z1e a1 b3 b4 b5 b6).2.2.2.1, (Z1e a1 b3 b4 b5 b6).2.2.2.2, (b2 ++ [a1]))
         (cond (a2 == (3 : Int))
           ((⟨(13 : Int), (0 : Int), (⟨#[]⟩ : BA), (0 : Int)⟩ : XRes), b3, b4, b5, b6, (b2 ++ [a1]))
           ((⟨(10 : Int), (0 : Int), (⟨#[]⟩ : BA), (0 : Int)⟩ : XRes), b3, b4, b5, b6, (b2 ++ [a1]))))))
def Zce (a1 : XCall) (a2 : Int) (b2 : LK) (b3 : LA) (b4 : LB) (b5 : LC) (b6 : LD) : RT :=
 (.ask false
   .fail
   (.need [CS a1]
     (.ask (cond (!(Z15 a1)) true (decide (a2 > (3 : Int))))
       (.leaf .ret ⟨slots 66 [(6, .ptr 7 0)], (.cells 143 [.ptr 1 0, .vec 2] :: .cells 102 [.map 3, .map 4, .map 5, .map 6] :: .vec false ⟨.call, b2⟩ :: oM b3 b4 b5 b6 [.cells 52 [.int .i64 2, .int .i64 0, .str (⟨#[]⟩ : BA), .int .u64 0]])⟩ [0, 1, 2, 3, 4, 5, 6, 8])
       (.ask (decide ((b2.length : Int) ≥ (4096 : Int)))
         (.leaf .ret ⟨slots 66 [(6, .ptr 7 0)], (.cells 143 [.ptr 1 0, .vec 2] :: .cells 102 [.map 3, .map 4, .map 5, .map 6] :: .vec false ⟨.call, b2⟩ :: oM b3 b4 b5 b6 [.cells 52 [.int .i64 7, .int .i64 0, .str (⟨#[]⟩ : BA), .int .u64 0]])⟩ [0, 1, 2, 3, 4, 5, 6, 8])
         (.need [(b2.length + [a1].length) * 88 ≤ bytesLim ∧ b2.length + [a1].length ≤ maxLen]
           (.ask (a2 == (0 : Int))
             (.need [CS a1]
               (.leaf .ret ⟨slots 66 [(6, .ptr 7 0)], (.cells 143 [.ptr 1 0, .vec 8] :: .cells 102 [.map 3, .map 4, .map 5, .map 6] :: .dead :: oM ((Z1e a1 b3 b4 b5 b6).2.1) ((Z1e a1 b3 b4 b5 b6).2.2.1) ((Z1e a1 b3 b4 b5 b6).2.2.2.1) ((Z1e a1 b3 b4 b5 b6).2.2.2.2) [.cells 52 [.int .i64 (((Z1e a1 b3 b4 b5 b6).1).err), .int .i64 (((Z1e a1 b3 b4 b5 b6).1).size), .str (((Z1e a1 b3 b4 b5 b6).1).zone), .int .u64 (((Z1e a1 b3 b4 b5 b6).1).tag)], .vec false ⟨.call, (b2 ++ [a1])⟩])⟩ [0, 1, 2, 3, 4, 5, 6, 8, 10]))
             (.ask (a2 == (2 : Int))
               (.need [CS a1]
                 (.leaf .ret ⟨slots 66 [(6, .ptr 7 0)], (.cells 143 [.ptr 1 0, .vec 8] :: .cells 102 [.map 3, .map 4, .map 5, .map 6] :: .dead :: oM ((Z1e a1 b3 b4 b5 b6).2.1) ((Z1e a1 b3 b4 b5 b6).2.2.1) ((Z1e a1 b3 b4 b5 b6).2.2.2.1) ((Z1e a1 b3 b4 b5 b6).2.2.2.2) [.cells 52 [.int .i64 13, .int .i64 0, .str (⟨#[]⟩ : BA), .int .u64 0], .vec false ⟨.call, (b2 ++ [a1])⟩])⟩ [0, 1, 2, 3, 4, 5, 6, 8, 10]))
               (.ask (a2 == (3 : Int))
                 (.leaf .ret ⟨slots 66 [(6, .ptr 7 0)], (.cells 143 [.ptr 1 0, .vec 8] :: .cells 102 [.map 3, .map 4, .map 5, .map 6] :: .dead :: oM b3 b4 b5 b6 [.cells 52 [.int .i64 13, .int .i64 0, .str (⟨#[]⟩ : BA), .int .u64 0], .vec false ⟨.call, (b2 ++ [a1])⟩])⟩ [0, 1, 2, 3, 4, 5, 6, 8, 10])
                 (.leaf .ret ⟨slots 66 [(6, .ptr 7 0)], (.cells 143 [.ptr 1 0, .vec 8] :: .cells 102 [.map 3, .map 4, .map 5, .map 6] :: .dead :: oM b3 b4 b5 b6 [.cells 52 [.int .i64 10, .int .i64 0, .str (⟨#[]⟩ : BA), .int .u64 0], .vec false ⟨.call, (b2 ++ [a1])⟩])⟩ [0, 1, 2, 3, 4, 5, 6, 8, 10])))))))))
theorem Z115 (a1 : XCall) (a2 : Int) (b2 : LK) (b3 : LA) (b4 : LB) (b5 : LC) (b6 : LD) (hp0 : CS a1) : Tr Try.prog 7 (bodyOf Try.f43) (fnBegins Try.f43 [.ptr 0 0, .agg (cc a1), .int .u8 a2] (.cells 143 [.ptr 1 0, .vec 2] :: .cells 102 [.map 3, .map 4, .map 5, .map 6] :: .vec false ⟨.call, b2⟩ :: oM b3 b4 b5 b6 [])) (fnEnds Try.prog Try.f43 (.agg [.int .i64 (((Z1 a1 a2 b2 b3 b4 b5 b6).1).err), .int .i64 (((Z1 a1 a2 b2 b3 b4 b5 b6).1).size), .str (((Z1 a1 a2 b2 b3 b4 b5 b6).1).zone), .int .u64 (((Z1 a1 a2 b2 b3 b4 b5 b6).1).tag)]) (.cells 143 [.ptr 1 0, .vec 7] :: .cells 102 [.map 3, .map 4, .map 5, .map 6] :: .dead :: oM ((Z1 a1 a2 b2 b3 b4 b5 b6).2.1) ((Z1 a1 a2 b2 b3 b4 b5 b6).2.2.1) ((Z1 a1 a2 b2 b3 b4 b5 b6).2.2.2.1) ((Z1 a1 a2 b2 b3 b4 b5 b6).2.2.2.2.1) [.vec false ⟨.call, (Z1 a1 a2 b2 b3 b4 b5 b6).2.2.2.2.2⟩])) := by
 refine Tr.post ?_
 refine Tr_tree (kok _ _ _ _ _ _) (E := E_call_Client_Send) (L := noLoops) 60 9999 Z11.none (Zce a1 a2 b2 b3 b4 b5 b6) (by kernel_rfl) (by kernel_rfl) (by kernel_rfl) ?_
 unfold Zce
 refine ⟨fun h0 => ?_, fun h0 => ?_⟩
 · exact absurd h0 (by simp)
 · refine ⟨Z5 (by (try refine fun (_ : _ = _) => ?_); (try refine fun (_ : _ ∧ _) => ?_); assumption) (Z9), ?_⟩
   refine ⟨fun h1 => ?_, fun h1 => ?_⟩
   · have hF : Z1 a1 a2 b2 b3 b4 b5 b6 = ((⟨(2 : Int), (0 : Int), (⟨#[]⟩ : BA), (0 : Int)⟩ : XRes), b3, b4, b5, b6, b2) := by first | exact (Z14 h1 rfl) | simp only [Z1, h0, h1, cond_true, cond_false]
     exact ⟨_, (Turn.moveC 0 1 2 8 rfl rfl rfl (by simp [hset, oM, oV])).trans (Turn.fits (p := ⟨slots 66 [(6, .ptr 8 0)], (.cells 143 [.ptr 1 0, .vec 7] :: .cells 102 [.map 3, .map 4, .map 5, .map 6] :: .dead :: oM b3 b4 b5 b6 [.vec false ⟨.call, b2⟩, .cells 52 [.int .i64 2, .int .i64 0, .str (⟨#[]⟩ : BA), .int .u64 0]])⟩) [0, 1, 2, 3, 4, 5, 6, 8, 7] (by kernel_rfl) (by kernel_rfl) (by kernel_rfl) (by kernel_rfl)), trivial, .inl (by (try rw [hF]); kernel_rfl), by (try rw [hF]); kernel_rfl⟩
   · refine ⟨fun h2 => ?_, fun h2 => ?_⟩
     · have hF : Z1 a1 a2 b2 b3 b4 b5 b6 = ((⟨(7 : Int), (0 : Int), (⟨#[]⟩ : BA), (0 : Int)⟩ : XRes), b3, b4, b5, b6, b2) := by first | exact (Z7 h1 (Z14 h2 rfl)) | simp only [Z1, h0, h1, h2, cond_true, cond_false]
       exact ⟨_, (Turn.moveC 0 1 2 8 rfl rfl rfl (by simp [hset, oM, oV])).trans (Turn.fits (p := ⟨slots 66 [(6, .ptr 8 0)], (.cells 143 [.ptr 1 0, .vec 7] :: .cells 102 [.map 3, .map 4, .map 5, .map 6] :: .dead :: oM b3 b4 b5 b6 [.vec false ⟨.call, b2⟩, .cells 52 [.int .i64 7, .int .i64 0, .str (⟨#[]⟩ : BA), .int .u64 0]])⟩) [0, 1, 2, 3, 4, 5, 6, 8, 7] (by kernel_rfl) (by kernel_rfl) (by kernel_rfl) (by kernel_rfl)), trivial, .inl (by (try rw [hF]); kernel_rfl), by (try rw [hF]); kernel_rfl⟩
     · refine ⟨Z5 (by (try refine fun (_ : _ = _) => ?_); (try refine fun (_ : _ ∧ _) => ?_); (simp only [decide_eq_false_iff_not] at *); unfold bytesLim maxLen; (try simp only [List.length_append, List.length_cons, List.length_nil]); omega) (Z9), ?_⟩
       refine ⟨fun h3 => ?_, fun h3 => ?_⟩
       · refine ⟨Z5 (by (try refine fun (_ : _ = _) => ?_); (try refine fun (_ : _ ∧ _) => ?_); assumption) (Z9), ?_⟩
         have hF : Z1 a1 a2 b2 b3 b4 b5 b6 = (((Z1e a1 b3 b4 b5 b6).1), (Z1e a1 b3 b4 b5 b6).2.1, (Z1e a1 b3 b4 b5 b6).2.2.1, (Z1e a1 b3 b4 b5 b6).2.2.2.1, (Z1e a1 b3 b4 b5 b6).2.2.2.2, (b2 ++ [a1])) := by first | exact (Z7 h1 (Z7 h2 (Z14 h3 rfl))) | simp only [Z1, h0, h1, h2, h3, cond_true, cond_false]
         exact ⟨_, (Turn.moveC 0 1 8 9 rfl rfl rfl (by simp [hset, oM, oV])).trans (Turn.fits (p := ⟨slots 66 [(6, .ptr 8 0)], (.cells 143 [.ptr 1 0, .vec 7] :: .cells 102 [.map 3, .map 4, .map 5, .map 6] :: .dead :: oM ((Z1e a1 b3 b4 b5 b6).2.1) ((Z1e a1 b3 b4 b5 b6).2.2.1) ((Z1e a1 b3 b4 b5 b6).2.2.2.1) ((Z1e a1 b3 b4 b5 b6).2.2.2.2) [.vec false ⟨.call, (b2 ++ [a1])⟩, .cells 52 [.int .i64 (((Z1e a1 b3 b4 b5 b6).1).err), .int .i64 (((Z1e a1 b3 b4 b5 b6).1).size), .str (((Z1e a1 b3 b4 b5 b6).1).zone), .int .u64 (((Z1e a1 b3 b4 b5 b6).1).tag)]])⟩) [0, 1, 2, 3, 4, 5, 6, 9, 7] (by kernel_rfl) (by kernel_rfl) (by kernel_rfl) (by kernel_rfl)), trivial, .inl (by (try rw [hF]); kernel_rfl), by (try rw [hF]); kernel_rfl⟩
       · refine ⟨fun h4 => ?_, fun h4 => ?_⟩
         · refine ⟨Z5 (by (try refine fun (_ : _ = _) => ?_); (try refine fun (_ : _ ∧ _) => ?_); assumption) (Z9), ?_⟩
           have hF : Z1 a1 a2 b2 b3 b4 b5 b6 = ((⟨(13 : Int), (0 : Int), (⟨#[]⟩ : BA), (0 : Int)⟩ : XRes), (Z1e a1 b3 b4 b5 b6).2.1, (Z1e a1 b3 b4 b5 b6).2.2.1, (Z1e a1 b3 b4 b5 b6).2.2.2.1, (Z1e a1 b3 b4 b5 b6).2.2.2.2, (b2 ++ [a1])) := by first | exact (Z7 h1 (Z7 h2 (Z7 h3 (Z14 h4 rfl)))) | simp only [Z1, h0, h1, h2, h3, h4, cond_true, cond_false]
           exact ⟨_, (Turn.moveC 0 1 8 9 rfl rfl rfl (by simp [hset, oM, oV])).trans (Turn.fits (p := ⟨slots 66 [(6, .ptr 8 0)], (.cells 143 [.ptr 1 0, .vec 7] :: .cells 102 [.map 3, .map 4, .map 5, .map 6] :: .dead :: oM ((Z1e a1 b3 b4 b5 b6).2.1) ((Z1e a1 b3 b4 b5 b6).2.2.1) ((Z1e a1 b3 b4 b5 b6).2.2.2.1) ((Z1e a1 b3 b4 b5 b6).2.2.2.2) [.vec false ⟨.call, (b2 ++ [a1])⟩, .cells 52 [.int .i64 13, .int .i64 0, .str (⟨#[]⟩ : BA), .int .u64 0]])⟩) [0, 1, 2, 3, 4, 5, 6, 9, 7] (by kernel_rfl) (by kernel_rfl) (by kernel_rfl) (by kernel_rfl)), trivial, .inl (by (try rw [hF]); kernel_rfl), by (try rw [hF]); kernel_rfl⟩
         · refine ⟨fun h5 => ?_, fun h5 => ?_⟩
           · have hF : Z1 a1 a2 b2 b3 b4 b5 b6 = ((⟨(13 : Int), (0 : Int), (⟨#[]⟩ : BA), (0 : Int)⟩ : XRes), b3, b4, b5, b6, (b2 ++ [a1])) := by first | exact (Z7 h1 (Z7 h2 (Z7 h3 (Z7 h4 (Z14 h5 rfl))))) | simp only [Z1, h0, h1, h2, h3, h4, h5, cond_true, cond_false]
             exact ⟨_, (Turn.moveC 0 1 8 9 rfl rfl rfl (by simp [hset, oM, oV])).trans (Turn.fits (p := ⟨slots 66 [(6, .ptr 8 0)], (.cells 143 [.ptr 1 0, .vec 7] :: .cells 102 [.map 3, .map 4, .map 5, .map 6] :: .dead :: oM b3 b4 b5 b6 [.vec false ⟨.call, (b2 ++ [a1])⟩, .cells 52 [.int .i64 13, .int .i64 0, .str (⟨#[]⟩ : BA), .int .u64 0]])⟩) [0, 1, 2, 3, 4, 5, 6, 9, 7] (by kernel_rfl) (by kernel_rfl) (by kernel_rfl) (by kernel_rfl)), trivial, .inl (by (try rw [hF]); kernel_rfl), by (try rw [hF]); kernel_rfl⟩
           · have hF : Z1 a1 a2 b2 b3 b4 b5 b6 = ((⟨(10 : Int), (0 : Int), (⟨#[]⟩ : BA), (0 : Int)⟩ : XRes), b3, b4, b5, b6, (b2 ++ [a1])) := by first | exact (Z7 h1 (Z7 h2 (Z7 h3 (Z7 h4 (Z7 h5 rfl))))) | simp only [Z1, h0, h1, h2, h3, h4, h5, cond_true, cond_false]
             exact ⟨_, (Turn.moveC 0 1 8 9 rfl rfl rfl (by simp [hset, oM, oV])).trans (Turn.fits (p := ⟨slots 66 [(6, .ptr 8 0)], (.cells 143 [.ptr 1 0, .vec 7] :: .cells 102 [.map 3, .map 4, .map 5, .map 6] :: .dead :: oM b3 b4 b5 b6 [.vec false ⟨.call, (b2 ++ [a1])⟩, .cells 52 [.int .i64 10, .int .i64 0, .str (⟨#[]⟩ : BA), .int .u64 0]])⟩) [0, 1, 2, 3, 4, 5, 6, 9, 7] (by kernel_rfl) (by kernel_rfl) (by kernel_rfl) (by kernel_rfl)), trivial, .inl (by (try rw [hF]); kernel_rfl), by (try rw [hF]); kernel_rfl⟩
noncomputable def Zf4 : Fact Try.prog := factOf 43 Try.f43 (by kernel_rfl) rfl (by kernel_rfl) [.c (.ptr 0 0), .st .call, .c (.int .u8)] [.cells 143 [.ptr 1 0, .vec 2], .cells 102 [.map 3, .map 4, .map 5, .map 6], .vec false .call, .map .str (.int .i64), .vols, .map .str .sn, .map .tgt .done] false (fun t u => .agg [.int .i64 (((Z1 t.2.1 t.2.2.1 u.2.2.1 u.2.2.2.1 u.2.2.2.2.1 u.2.2.2.2.2.1 u.2.2.2.2.2.2.1).1).err), .int .i64 (((Z1 t.2.1 t.2.2.1 u.2.2.1 u.2.2.2.1 u.2.2.2.2.1 u.2.2.2.2.2.1 u.2.2.2.2.2.2.1).1).size), .str (((Z1 t.2.1 t.2.2.1 u.2.2.1 u.2.2.2.1 u.2.2.2.2.1 u.2.2.2.2.2.1 u.2.2.2.2.2.2.1).1).zone), .int .u64 (((Z1 t.2.1 t.2.2.1 u.2.2.1 u.2.2.2.1 u.2.2.2.2.1 u.2.2.2.2.2.1 u.2.2.2.2.2.2.1).1).tag)]) (fun t u => (.cells 143 [.ptr 1 0, .vec 7] :: .cells 102 [.map 3, .map 4, .map 5, .map 6] :: .dead :: oM ((Z1 t.2.1 t.2.2.1 u.2.2.1 u.2.2.2.1 u.2.2.2.2.1 u.2.2.2.2.2.1 u.2.2.2.2.2.2.1).2.1) ((Z1 t.2.1 t.2.2.1 u.2.2.1 u.2.2.2.1 u.2.2.2.2.1 u.2.2.2.2.2.1 u.2.2.2.2.2.2.1).2.2.1) ((Z1 t.2.1 t.2.2.1 u.2.2.1 u.2.2.2.1 u.2.2.2.2.1 u.2.2.2.2.2.1 u.2.2.2.2.2.2.1).2.2.2.1) ((Z1 t.2.1 t.2.2.1 u.2.2.1 u.2.2.2.1 u.2.2.2.2.1 u.2.2.2.2.2.1 u.2.2.2.2.2.2.1).2.2.2.2.1) [.vec false ⟨.call, (Z1 t.2.1 t.2.2.1 u.2.2.1 u.2.2.2.1 u.2.2.2.2.1 u.2.2.2.2.2.1 u.2.2.2.2.2.2.1).2.2.2.2.2⟩])) (fun t u => [CS t.2.1])
 (nofun) (fun t u => by kernel_rfl) (fun t u => by kernel_rfl) (fun t u h => Z115 t.2.1 t.2.2.1 u.2.2.1 u.2.2.2.1 u.2.2.2.2.1 u.2.2.2.2.2.1 u.2.2.2.2.2.2.1 (h _ mS))
noncomputable def Z5c : Fact Try.prog := factThin Zf4 [.c (.ptr 0 0), .st .call, .c (.int .u8)] [.cells 143 [.ptr 1 0, .vec 2], .cells 102 [.map 3, .map 4, .map 5, .map 6], .vec false .call, .map .str (.int .i64), .vols, .map .str .sn, .map .tgt .done] (fun t u => .agg [.int .i64 (((Z1 t.2.1 t.2.2.1 u.2.2.1 u.2.2.2.1 u.2.2.2.2.1 u.2.2.2.2.2.1 u.2.2.2.2.2.2.1).1).err), .int .i64 (((Z1 t.2.1 t.2.2.1 u.2.2.1 u.2.2.2.1 u.2.2.2.2.1 u.2.2.2.2.2.1 u.2.2.2.2.2.2.1).1).size), .str (((Z1 t.2.1 t.2.2.1 u.2.2.1 u.2.2.2.1 u.2.2.2.2.1 u.2.2.2.2.2.1 u.2.2.2.2.2.2.1).1).zone), .int .u64 (((Z1 t.2.1 t.2.2.1 u.2.2.1 u.2.2.2.1 u.2.2.2.2.1 u.2.2.2.2.2.1 u.2.2.2.2.2.2.1).1).tag)]) (fun t u => (.cells 143 [.ptr 1 0, .vec 7] :: .cells 102 [.map 3, .map 4, .map 5, .map 6] :: .dead :: oM ((Z1 t.2.1 t.2.2.1 u.2.2.1 u.2.2.2.1 u.2.2.2.2.1 u.2.2.2.2.2.1 u.2.2.2.2.2.2.1).2.1) ((Z1 t.2.1 t.2.2.1 u.2.2.1 u.2.2.2.1 u.2.2.2.2.1 u.2.2.2.2.2.1 u.2.2.2.2.2.2.1).2.2.1) ((Z1 t.2.1 t.2.2.1 u.2.2.1 u.2.2.2.1 u.2.2.2.2.1 u.2.2.2.2.2.1 u.2.2.2.2.2.2.1).2.2.2.1) ((Z1 t.2.1 t.2.2.1 u.2.2.1 u.2.2.2.1 u.2.2.2.2.1 u.2.2.2.2.2.1 u.2.2.2.2.2.2.1).2.2.2.2.1) [.vec false ⟨.call, (Z1 t.2.1 t.2.2.1 u.2.2.1 u.2.2.2.1 u.2.2.2.2.1 u.2.2.2.2.2.1 u.2.2.2.2.2.2.1).2.2.2.2.2⟩])) (fun t u => [CS t.2.1]) rfl [1] (by
 intro t u k hk
 obtain rfl := List.mem_singleton.1 hk
 all_goals exact ⟨by decide, rfl⟩)
noncomputable def E_call_Client_Again : Env := envOf (P := Try.prog) [dD_Do_fact] [] [] ckf true
def Z3 (a1 : Int) (b2 : LK) (b3 : LA) (b4 : LB) (b5 : LC) (b6 : LD) : Int × LA × LB × LC × LD :=
 cond (cond (decide (a1 < (0 : Int))) true (decide (a1 ≥ (b2.length : Int))))
   ((3 : Int), b3, b4, b5, b6)
   ((0 : Int), (Z1e (b2.getD a1.toNat default) b3 b4 b5 b6).2.1, (Z1e (b2.getD a1.toNat default) b3 b4 b5 b6).2.2.1, (Z1e (b2.getD a1.toNat default) b3 b4 b5 b6).2.2.2.1, (Z1e (b2.getD a1.toNat default) b3 b4 b5 b6).2.2.2.2)
def Zbb (a1 : Int) (b2 : LK) (b3 : LA) (b4 : LB) (b5 : LC) (b6 : LD) : RT :=
 (.ask false
   .fail
   (.ask (cond (decide (a1 < (0 : Int))) true (decide (a1 ≥ (b2.length : Int))))
     (.leaf .ret ⟨slots 35 [(4, .int .i64 3)], (.cells 143 [.ptr 1 0, .vec 2] :: .cells 102 [.map 3, .map 4, .map 5, .map 6] :: .vec false ⟨.call, b2⟩ :: oM b3 b4 b5 b6 [])⟩ [])
     (.need [0 ≤ a1 ∧ a1 < (b2.length : Int), CS (b2.getD a1.toNat default)]
       (.leaf .ret ⟨slots 35 [(4, .int .i64 0)], (.cells 143 [.ptr 1 0, .vec 2] :: .cells 102 [.map 3, .map 4, .map 5, .map 6] :: .vec false ⟨.call, b2⟩ :: oM ((Z1e (b2.getD a1.toNat default) b3 b4 b5 b6).2.1) ((Z1e (b2.getD a1.toNat default) b3 b4 b5 b6).2.2.1) ((Z1e (b2.getD a1.toNat default) b3 b4 b5 b6).2.2.2.1) ((Z1e (b2.getD a1.toNat default) b3 b4 b5 b6).2.2.2.2) [])⟩ []))))
theorem Z10c (a1 : Int) (b2 : LK) (b3 : LA) (b4 : LB) (b5 : LC) (b6 : LD) (hp0 : ∀ x ∈ b2, CS x) : Tr Try.prog 7 (bodyOf Try.f41) (fnBegins Try.f41 [.ptr 0 0, .int .i64 a1] (.cells 143 [.ptr 1 0, .vec 2] :: .cells 102 [.map 3, .map 4, .map 5, .map 6] :: .vec false ⟨.call, b2⟩ :: oM b3 b4 b5 b6 [])) (fnEnds Try.prog Try.f41 (.int .i64 ((Z3 a1 b2 b3 b4 b5 b6).1)) (.cells 143 [.ptr 1 0, .vec 2] :: .cells 102 [.map 3, .map 4, .map 5, .map 6] :: .vec false ⟨.call, b2⟩ :: oM ((Z3 a1 b2 b3 b4 b5 b6).2.1) ((Z3 a1 b2 b3 b4 b5 b6).2.2.1) ((Z3 a1 b2 b3 b4 b5 b6).2.2.2.1) ((Z3 a1 b2 b3 b4 b5 b6).2.2.2.2) [])) := by
 refine Tr_tree (kok _ _ _ _ _ _) (E := E_call_Client_Again) (L := noLoops) 60 9999 Z11.none (Zbb a1 b2 b3 b4 b5 b6) (by kernel_rfl) (by kernel_rfl) (by kernel_rfl) ?_
 unfold Zbb
 refine ⟨fun h0 => ?_, fun h0 => ?_⟩
 · exact absurd h0 (by simp)
 · refine ⟨fun h1 => ?_, fun h1 => ?_⟩
   · have hF : Z3 a1 b2 b3 b4 b5 b6 = ((3 : Int), b3, b4, b5, b6) := by first | exact (Z14 h1 rfl) | simp only [Z3, h0, h1, cond_true, cond_false]
     exact ⟨trivial, .inl (by (try rw [hF]); kernel_rfl), by (try rw [hF]); kernel_rfl⟩
   · refine ⟨Z5 (by (try refine fun (_ : _ = _) => ?_); (try refine fun (_ : _ ∧ _) => ?_); (try simp only [Bool.cond_true_left, Bool.or_eq_false_iff, decide_eq_false_iff_not] at *); first | omega | (constructor <;> omega)) (Z5 (by (try refine fun (_ : _ = _) => ?_); (try refine fun (_ : _ ∧ _) => ?_); (try simp only [Bool.cond_true_left, Bool.or_eq_false_iff, decide_eq_false_iff_not] at *); exact hp0 _ (gD_memI (by omega) (by omega))) (Z9)), ?_⟩
     have hF : Z3 a1 b2 b3 b4 b5 b6 = ((0 : Int), (Z1e (b2.getD a1.toNat default) b3 b4 b5 b6).2.1, (Z1e (b2.getD a1.toNat default) b3 b4 b5 b6).2.2.1, (Z1e (b2.getD a1.toNat default) b3 b4 b5 b6).2.2.2.1, (Z1e (b2.getD a1.toNat default) b3 b4 b5 b6).2.2.2.2) := by first | exact (Z7 h1 rfl) | simp only [Z3, h0, h1, cond_true, cond_false]
     exact ⟨trivial, .inl (by (try rw [hF]); kernel_rfl), by (try rw [hF]); kernel_rfl⟩
noncomputable def Ze2 : Fact Try.prog := factOf 41 Try.f41 (by kernel_rfl) rfl (by kernel_rfl) [.c (.ptr 0 0), .c (.int .i64)] [.cells 143 [.ptr 1 0, .vec 2], .cells 102 [.map 3, .map 4, .map 5, .map 6], .vec false .call, .map .str (.int .i64), .vols, .map .str .sn, .map .tgt .done] false (fun t u => .int .i64 ((Z3 t.2.1 u.2.2.1 u.2.2.2.1 u.2.2.2.2.1 u.2.2.2.2.2.1 u.2.2.2.2.2.2.1).1)) (fun t u => (.cells 143 [.ptr 1 0, .vec 2] :: .cells 102 [.map 3, .map 4, .map 5, .map 6] :: .vec false ⟨.call, u.2.2.1⟩ :: oM ((Z3 t.2.1 u.2.2.1 u.2.2.2.1 u.2.2.2.2.1 u.2.2.2.2.2.1 u.2.2.2.2.2.2.1).2.1) ((Z3 t.2.1 u.2.2.1 u.2.2.2.1 u.2.2.2.2.1 u.2.2.2.2.2.1 u.2.2.2.2.2.2.1).2.2.1) ((Z3 t.2.1 u.2.2.1 u.2.2.2.1 u.2.2.2.2.1 u.2.2.2.2.2.1 u.2.2.2.2.2.2.1).2.2.2.1) ((Z3 t.2.1 u.2.2.1 u.2.2.2.1 u.2.2.2.2.1 u.2.2.2.2.2.1 u.2.2.2.2.2.2.1).2.2.2.2) [])) (fun t u => [∀ x ∈ u.2.2.1, CS x])
 (nofun) (fun t u => by kernel_rfl) (fun t u => by kernel_rfl) (fun t u h => Z10c t.2.1 u.2.2.1 u.2.2.2.1 u.2.2.2.2.1 u.2.2.2.2.2.1 u.2.2.2.2.2.2.1 (h _ mS))
noncomputable def Z99 : Fact Try.prog := factThin Ze2 [.c (.ptr 0 0), .c (.int .i64)] [.cells 143 [.ptr 1 0, .vec 2], .cells 102 [.map 3, .map 4, .map 5, .map 6], .vec false .call, .map .str (.int .i64), .vols, .map .str .sn, .map .tgt .done] (fun t u => .int .i64 ((Z3 t.2.1 u.2.2.1 u.2.2.2.1 u.2.2.2.2.1 u.2.2.2.2.2.1 u.2.2.2.2.2.2.1).1)) (fun t u => (.cells 143 [.ptr 1 0, .vec 2] :: .cells 102 [.map 3, .map 4, .map 5, .map 6] :: .vec false ⟨.call, u.2.2.1⟩ :: oM ((Z3 t.2.1 u.2.2.1 u.2.2.2.1 u.2.2.2.2.1 u.2.2.2.2.2.1 u.2.2.2.2.2.2.1).2.1) ((Z3 t.2.1 u.2.2.1 u.2.2.2.1 u.2.2.2.2.1 u.2.2.2.2.2.1 u.2.2.2.2.2.2.1).2.2.1) ((Z3 t.2.1 u.2.2.1 u.2.2.2.1 u.2.2.2.2.1 u.2.2.2.2.2.1 u.2.2.2.2.2.2.1).2.2.2.1) ((Z3 t.2.1 u.2.2.1 u.2.2.2.1 u.2.2.2.2.1 u.2.2.2.2.2.1 u.2.2.2.2.2.2.1).2.2.2.2) [])) (fun t u => [∀ x ∈ u.2.2.1, CS x]) rfl [0, 1, 2] (by
 intro t u k hk
 simp only [List.mem_cons, List.not_mem_nil, or_false] at hk
 rcases hk with rfl | rfl | rfl
 all_goals exact ⟨by decide, rfl⟩)
noncomputable def E_call_Client_Sent : Env := envOf (P := Try.prog) [cloneA_fact] [] [] ckf true
def Zc (b2 : LK) (b3 : LA) (b4 : LB) (b5 : LC) (b6 : LD) : LK :=
 b2
def Zcd (b2 : LK) (b3 : LA) (b4 : LB) (b5 : LC) (b6 : LD) : RT :=
 (.ask false
   .fail
   (.need [b2.length ≤ 1000000]
     (.leaf .ret ⟨slots 11 [(2, .vec 7)], (.cells 143 [.ptr 1 0, .vec 2] :: .cells 102 [.map 3, .map 4, .map 5, .map 6] :: .vec false ⟨.call, b2⟩ :: oM b3 b4 b5 b6 [.vec false ⟨.call, b2⟩])⟩ [0, 1, 2, 3, 4, 5, 6, 8])))
theorem Z114 (b2 : LK) (b3 : LA) (b4 : LB) (b5 : LC) (b6 : LD) (hp0 : b2.length ≤ 1000000) : Tr Try.prog 7 (bodyOf Try.f40) (fnBegins Try.f40 [.ptr 0 0] (.cells 143 [.ptr 1 0, .vec 2] :: .cells 102 [.map 3, .map 4, .map 5, .map 6] :: .vec false ⟨.call, b2⟩ :: oM b3 b4 b5 b6 [])) (fnEnds Try.prog Try.f40 (.coll ⟨.call, Zc b2 b3 b4 b5 b6⟩) (.cells 143 [.ptr 1 0, .vec 2] :: .cells 102 [.map 3, .map 4, .map 5, .map 6] :: .vec false ⟨.call, b2⟩ :: oM b3 b4 b5 b6 [])) := by
 refine Tr.post ?_
 refine Tr_tree (kok _ _ _ _ _ _) (E := E_call_Client_Sent) (L := noLoops) 60 9999 Z11.none (Zcd b2 b3 b4 b5 b6) (by kernel_rfl) (by kernel_rfl) (by kernel_rfl) ?_
 unfold Zcd
 refine ⟨fun h0 => ?_, fun h0 => ?_⟩
 · exact absurd h0 (by simp)
 · refine ⟨Z5 (by (try refine fun (_ : _ = _) => ?_); (try refine fun (_ : _ ∧ _) => ?_); assumption) (Z9), ?_⟩
   have hF : Zc b2 b3 b4 b5 b6 = b2 := by first | exact rfl | simp only [Zc, h0, cond_true, cond_false]
   exact ⟨_, Turn.frz 7 rfl, trivial, .inr (by (try rw [hF]); kernel_rfl), by (try rw [hF]); kernel_rfl⟩
noncomputable def Z6d : Fact Try.prog := factOf 40 Try.f40 (by kernel_rfl) rfl (by kernel_rfl) [.c (.ptr 0 0)] [.cells 143 [.ptr 1 0, .vec 2], .cells 102 [.map 3, .map 4, .map 5, .map 6], .vec false .call, .map .str (.int .i64), .vols, .map .str .sn, .map .tgt .done] true (fun t u => .coll ⟨.call, Zc u.2.2.1 u.2.2.2.1 u.2.2.2.2.1 u.2.2.2.2.2.1 u.2.2.2.2.2.2.1⟩) (fun t u => HPL.enc _ u) (fun t u => [u.2.2.1.length ≤ 1000000])
 (fun _ _ _ => rfl) (fun t u => by kernel_rfl) (fun t u => by kernel_rfl) (fun t u h => Z114 u.2.2.1 u.2.2.2.1 u.2.2.2.2.1 u.2.2.2.2.2.1 u.2.2.2.2.2.2.1 (h _ mS))
noncomputable def E_call_Client_driver : Env := envOf (P := Try.prog) [] [] [] ckf
def Zaf (b2 : LK) (b3 : LA) (b4 : LB) (b5 : LC) (b6 : LD) : RT :=
 (.ask false
   .fail
   (.leaf .ret ⟨slots 10 [(2, .ptr 1 0)], (.cells 143 [.ptr 1 0, .vec 2] :: .cells 102 [.map 3, .map 4, .map 5, .map 6] :: .vec false ⟨.call, b2⟩ :: oM b3 b4 b5 b6 [])⟩ []))
theorem Zf2 (b2 : LK) (b3 : LA) (b4 : LB) (b5 : LC) (b6 : LD)  : Tr Try.prog 7 (bodyOf Try.f81) (fnBegins Try.f81 [.ptr 0 0] (.cells 143 [.ptr 1 0, .vec 2] :: .cells 102 [.map 3, .map 4, .map 5, .map 6] :: .vec false ⟨.call, b2⟩ :: oM b3 b4 b5 b6 [])) (fnEnds Try.prog Try.f81 (.ptr 1 0) (.cells 143 [.ptr 1 0, .vec 2] :: .cells 102 [.map 3, .map 4, .map 5, .map 6] :: .vec false ⟨.call, b2⟩ :: oM b3 b4 b5 b6 [])) := by
 refine Tr_tree (kok _ _ _ _ _ _) (E := E_call_Client_driver) (L := noLoops) 60 9999 Z11.none (Zaf b2 b3 b4 b5 b6) (by kernel_rfl) (by kernel_rfl) (by kernel_rfl) ?_
 unfold Zaf
 refine ⟨fun h0 => ?_, fun h0 => ?_⟩
 · exact absurd h0 (by simp)
 · exact ⟨trivial, .inl (by kernel_rfl), by kernel_rfl⟩
noncomputable def Z60 : Fact Try.prog := factOf 81 Try.f81 (by kernel_rfl) rfl (by kernel_rfl) [.c (.ptr 0 0)] [.cells 143 [.ptr 1 0, .vec 2], .cells 102 [.map 3, .map 4, .map 5, .map 6], .vec false .call, .map .str (.int .i64), .vols, .map .str .sn, .map .tgt .done] true (fun t u => .ptr 1 0) (fun t u => HPL.enc _ u) (fun t u => [])
 (fun _ _ _ => rfl) (fun t u => by kernel_rfl) (fun t u => by kernel_rfl) (fun t u h => Zf2 u.2.2.1 u.2.2.2.1 u.2.2.2.2.1 u.2.2.2.2.2.1 u.2.2.2.2.2.2.1 )
noncomputable def E_call_Client_Put : Env := envOf (P := Try.prog) [Z60, dD_Put_fact] [] [] ckf
def Z37 (a1 : BA) (a2 : BA) (a3 : Int) (b2 : LK) (b3 : LA) (b4 : LB) (b5 : LC) (b6 : LD) : Int × LB :=
 (((Z70 a1 a2 a3 b3 b4 b5 b6).1), (Z70 a1 a2 a3 b3 b4 b5 b6).2)
def Zed (a1 : BA) (a2 : BA) (a3 : Int) (b2 : LK) (b3 : LA) (b4 : LB) (b5 : LC) (b6 : LD) : RT :=
 (.leaf .ret ⟨slots 15 [(8, .int .i64 ((Z70 a1 a2 a3 b3 b4 b5 b6).1))], (.cells 143 [.ptr 1 0, .vec 2] :: .cells 102 [.map 3, .map 4, .map 5, .map 6] :: .vec false ⟨.call, b2⟩ :: oM b3 ((Z70 a1 a2 a3 b3 b4 b5 b6).2) b5 b6 [])⟩ [])
theorem Z12c (a1 : BA) (a2 : BA) (a3 : Int) (b2 : LK) (b3 : LA) (b4 : LB) (b5 : LC) (b6 : LD)  : Tr Try.prog 7 (bodyOf Try.f48) (fnBegins Try.f48 [.ptr 0 0, .str a1, .str a2, .int .u64 a3] (.cells 143 [.ptr 1 0, .vec 2] :: .cells 102 [.map 3, .map 4, .map 5, .map 6] :: .vec false ⟨.call, b2⟩ :: oM b3 b4 b5 b6 [])) (fnEnds Try.prog Try.f48 (.int .i64 ((Z37 a1 a2 a3 b2 b3 b4 b5 b6).1)) (.cells 143 [.ptr 1 0, .vec 2] :: .cells 102 [.map 3, .map 4, .map 5, .map 6] :: .vec false ⟨.call, b2⟩ :: oM b3 ((Z37 a1 a2 a3 b2 b3 b4 b5 b6).2) b5 b6 [])) := by
 refine Tr_tree (kok _ _ _ _ _ _) (E := E_call_Client_Put) (L := noLoops) 60 9999 Z11.none (Zed a1 a2 a3 b2 b3 b4 b5 b6) (by kernel_rfl) (by kernel_rfl) (by kernel_rfl) ?_
 unfold Zed
 exact ⟨trivial, .inl (by kernel_rfl), by kernel_rfl⟩
noncomputable def Z10a : Fact Try.prog := factOf 48 Try.f48 (by kernel_rfl) rfl (by kernel_rfl) [.c (.ptr 0 0), .c (.str), .c (.str), .c (.int .u64)] [.cells 143 [.ptr 1 0, .vec 2], .cells 102 [.map 3, .map 4, .map 5, .map 6], .vec false .call, .map .str (.int .i64), .vols, .map .str .sn, .map .tgt .done] false (fun t u => .int .i64 ((Z37 t.2.1 t.2.2.1 t.2.2.2.1 u.2.2.1 u.2.2.2.1 u.2.2.2.2.1 u.2.2.2.2.2.1 u.2.2.2.2.2.2.1).1)) (fun t u => (.cells 143 [.ptr 1 0, .vec 2] :: .cells 102 [.map 3, .map 4, .map 5, .map 6] :: .vec false ⟨.call, u.2.2.1⟩ :: oM (u.2.2.2.1) ((Z37 t.2.1 t.2.2.1 t.2.2.2.1 u.2.2.1 u.2.2.2.1 u.2.2.2.2.1 u.2.2.2.2.2.1 u.2.2.2.2.2.2.1).2) (u.2.2.2.2.2.1) (u.2.2.2.2.2.2.1) [])) (fun t u => [])
 (nofun) (fun t u => by kernel_rfl) (fun t u => by kernel_rfl) (fun t u h => Z12c t.2.1 t.2.2.1 t.2.2.2.1 u.2.2.1 u.2.2.2.1 u.2.2.2.2.1 u.2.2.2.2.2.1 u.2.2.2.2.2.2.1 )
noncomputable def Z117 : Fact Try.prog := factThin Z10a [.c (.ptr 0 0), .c (.str), .c (.str), .c (.int .u64)] [.cells 143 [.ptr 1 0, .vec 2], .cells 102 [.map 3, .map 4, .map 5, .map 6], .vec false .call, .map .str (.int .i64), .vols, .map .str .sn, .map .tgt .done] (fun t u => .int .i64 ((Z37 t.2.1 t.2.2.1 t.2.2.2.1 u.2.2.1 u.2.2.2.1 u.2.2.2.2.1 u.2.2.2.2.2.1 u.2.2.2.2.2.2.1).1)) (fun t u => (.cells 143 [.ptr 1 0, .vec 2] :: .cells 102 [.map 3, .map 4, .map 5, .map 6] :: .vec false ⟨.call, u.2.2.1⟩ :: oM (u.2.2.2.1) ((Z37 t.2.1 t.2.2.1 t.2.2.2.1 u.2.2.1 u.2.2.2.1 u.2.2.2.2.1 u.2.2.2.2.2.1 u.2.2.2.2.2.2.1).2) (u.2.2.2.2.2.1) (u.2.2.2.2.2.2.1) [])) (fun t u => []) rfl [0, 1, 2, 3, 5, 6] (by
 intro t u k hk
 simp only [List.mem_cons, List.not_mem_nil, or_false] at hk
 rcases hk with rfl | rfl | rfl | rfl | rfl | rfl
 all_goals exact ⟨by decide, rfl⟩)
noncomputable def E_call_Client_Room : Env := envOf (P := Try.prog) [Z60, dD_Room_fact] [] [] ckf
def Ze (a1 : BA) (b2 : LK) (b3 : LA) (b4 : LB) (b5 : LC) (b6 : LD) : Int × Bool :=
 (((Z88 a1 b3 b4 b5 b6).1), (Z88 a1 b3 b4 b5 b6).2)
def Zcf (a1 : BA) (b2 : LK) (b3 : LA) (b4 : LB) (b5 : LC) (b6 : LD) : RT :=
 (.leaf .ret ⟨slots 12 [(4, .int .i64 ((Z88 a1 b3 b4 b5 b6).1)), (5, .bool ((Z88 a1 b3 b4 b5 b6).2))], (.cells 143 [.ptr 1 0, .vec 2] :: .cells 102 [.map 3, .map 4, .map 5, .map 6] :: .vec false ⟨.call, b2⟩ :: oM b3 b4 b5 b6 [])⟩ [])
theorem Z116 (a1 : BA) (b2 : LK) (b3 : LA) (b4 : LB) (b5 : LC) (b6 : LD)  : Tr Try.prog 7 (bodyOf Try.f47) (fnBegins Try.f47 [.ptr 0 0, .str a1] (.cells 143 [.ptr 1 0, .vec 2] :: .cells 102 [.map 3, .map 4, .map 5, .map 6] :: .vec false ⟨.call, b2⟩ :: oM b3 b4 b5 b6 [])) (fnEnds Try.prog Try.f47 (.tup [.int .i64 ((Ze a1 b2 b3 b4 b5 b6).1), .bool ((Ze a1 b2 b3 b4 b5 b6).2)]) (.cells 143 [.ptr 1 0, .vec 2] :: .cells 102 [.map 3, .map 4, .map 5, .map 6] :: .vec false ⟨.call, b2⟩ :: oM b3 b4 b5 b6 [])) := by
 refine Tr_tree (kok _ _ _ _ _ _) (E := E_call_Client_Room) (L := noLoops) 60 9999 Z11.none (Zcf a1 b2 b3 b4 b5 b6) (by kernel_rfl) (by kernel_rfl) (by kernel_rfl) ?_
 unfold Zcf
 exact ⟨trivial, .inl (by kernel_rfl), by kernel_rfl⟩
noncomputable def Za2 : Fact Try.prog := factOf 47 Try.f47 (by kernel_rfl) rfl (by kernel_rfl) [.c (.ptr 0 0), .c (.str)] [.cells 143 [.ptr 1 0, .vec 2], .cells 102 [.map 3, .map 4, .map 5, .map 6], .vec false .call, .map .str (.int .i64), .vols, .map .str .sn, .map .tgt .done] true (fun t u => .tup [.int .i64 ((Ze t.2.1 u.2.2.1 u.2.2.2.1 u.2.2.2.2.1 u.2.2.2.2.2.1 u.2.2.2.2.2.2.1).1), .bool ((Ze t.2.1 u.2.2.1 u.2.2.2.1 u.2.2.2.2.1 u.2.2.2.2.2.1 u.2.2.2.2.2.2.1).2)]) (fun t u => HPL.enc _ u) (fun t u => [])
 (fun _ _ _ => rfl) (fun t u => by kernel_rfl) (fun t u => by kernel_rfl) (fun t u h => Z116 t.2.1 u.2.2.1 u.2.2.2.1 u.2.2.2.2.1 u.2.2.2.2.2.1 u.2.2.2.2.2.2.1 )
noncomputable def E_call_Client_Volumes : Env := envOf (P := Try.prog) [Z60, dD_Volumes_fact] [] [] ckf true
def Z18 (b2 : LK) (b3 : LA) (b4 : LB) (b5 : LC) (b6 : LD) : LV :=
 Z40 b3 b4 b5 b6
def Za6 (b2 : LK) (b3 : LA) (b4 : LB) (b5 : LC) (b6 : LD) : RT :=
 (.need [VB b4]
   (.leaf .ret ⟨slots 6 [(2, .coll ⟨.vol, Z40 b3 b4 b5 b6⟩)], (.cells 143 [.ptr 1 0, .vec 2] :: .cells 102 [.map 3, .map 4, .map 5, .map 6] :: .vec false ⟨.call, b2⟩ :: oM b3 b4 b5 b6 [])⟩ []))
theorem Zdc (b2 : LK) (b3 : LA) (b4 : LB) (b5 : LC) (b6 : LD) (hp0 : VB b4) : Tr Try.prog 7 (bodyOf Try.f49) (fnBegins Try.f49 [.ptr 0 0] (.cells 143 [.ptr 1 0, .vec 2] :: .cells 102 [.map 3, .map 4, .map 5, .map 6] :: .vec false ⟨.call, b2⟩ :: oM b3 b4 b5 b6 [])) (fnEnds Try.prog Try.f49 (.coll ⟨.vol, Z18 b2 b3 b4 b5 b6⟩) (.cells 143 [.ptr 1 0, .vec 2] :: .cells 102 [.map 3, .map 4, .map 5, .map 6] :: .vec false ⟨.call, b2⟩ :: oM b3 b4 b5 b6 [])) := by
 refine Tr_tree (kok _ _ _ _ _ _) (E := E_call_Client_Volumes) (L := noLoops) 60 9999 Z11.none (Za6 b2 b3 b4 b5 b6) (by kernel_rfl) (by kernel_rfl) (by kernel_rfl) ?_
 unfold Za6
 refine ⟨Z5 (by (try refine fun (_ : _ = _) => ?_); (try refine fun (_ : _ ∧ _) => ?_); assumption) (Z9), ?_⟩
 exact ⟨trivial, .inl (by kernel_rfl), by kernel_rfl⟩
noncomputable def Z77 : Fact Try.prog := factOf 49 Try.f49 (by kernel_rfl) rfl (by kernel_rfl) [.c (.ptr 0 0)] [.cells 143 [.ptr 1 0, .vec 2], .cells 102 [.map 3, .map 4, .map 5, .map 6], .vec false .call, .map .str (.int .i64), .vols, .map .str .sn, .map .tgt .done] true (fun t u => .coll ⟨.vol, Z18 u.2.2.1 u.2.2.2.1 u.2.2.2.2.1 u.2.2.2.2.2.1 u.2.2.2.2.2.2.1⟩) (fun t u => HPL.enc _ u) (fun t u => [VB u.2.2.2.2.1])
 (fun _ _ _ => rfl) (fun t u => by kernel_rfl) (fun t u => by kernel_rfl) (fun t u h => Zdc u.2.2.1 u.2.2.2.1 u.2.2.2.2.1 u.2.2.2.2.2.1 u.2.2.2.2.2.2.1 (h _ mS))
noncomputable def E_call_Client_Snaps : Env := envOf (P := Try.prog) [Z60, dD_Snaps_fact] [] [] ckf true
def Z35 (b2 : LK) (b3 : LA) (b4 : LB) (b5 : LC) (b6 : LD) : LS :=
 Z6c b3 b4 b5 b6
def Zb9 (b2 : LK) (b3 : LA) (b4 : LB) (b5 : LC) (b6 : LD) : RT :=
 (.need [NK b5]
   (.leaf .ret ⟨slots 6 [(2, .coll ⟨.snap, Z6c b3 b4 b5 b6⟩)], (.cells 143 [.ptr 1 0, .vec 2] :: .cells 102 [.map 3, .map 4, .map 5, .map 6] :: .vec false ⟨.call, b2⟩ :: oM b3 b4 b5 b6 [])⟩ []))
theorem Z109 (b2 : LK) (b3 : LA) (b4 : LB) (b5 : LC) (b6 : LD) (hp0 : NK b5) : Tr Try.prog 7 (bodyOf Try.f50) (fnBegins Try.f50 [.ptr 0 0] (.cells 143 [.ptr 1 0, .vec 2] :: .cells 102 [.map 3, .map 4, .map 5, .map 6] :: .vec false ⟨.call, b2⟩ :: oM b3 b4 b5 b6 [])) (fnEnds Try.prog Try.f50 (.coll ⟨.snap, Z35 b2 b3 b4 b5 b6⟩) (.cells 143 [.ptr 1 0, .vec 2] :: .cells 102 [.map 3, .map 4, .map 5, .map 6] :: .vec false ⟨.call, b2⟩ :: oM b3 b4 b5 b6 [])) := by
 refine Tr_tree (kok _ _ _ _ _ _) (E := E_call_Client_Snaps) (L := noLoops) 60 9999 Z11.none (Zb9 b2 b3 b4 b5 b6) (by kernel_rfl) (by kernel_rfl) (by kernel_rfl) ?_
 unfold Zb9
 refine ⟨Z5 (by (try refine fun (_ : _ = _) => ?_); (try refine fun (_ : _ ∧ _) => ?_); assumption) (Z9), ?_⟩
 exact ⟨trivial, .inl (by kernel_rfl), by kernel_rfl⟩
noncomputable def Z98 : Fact Try.prog := factOf 50 Try.f50 (by kernel_rfl) rfl (by kernel_rfl) [.c (.ptr 0 0)] [.cells 143 [.ptr 1 0, .vec 2], .cells 102 [.map 3, .map 4, .map 5, .map 6], .vec false .call, .map .str (.int .i64), .vols, .map .str .sn, .map .tgt .done] true (fun t u => .coll ⟨.snap, Z35 u.2.2.1 u.2.2.2.1 u.2.2.2.2.1 u.2.2.2.2.2.1 u.2.2.2.2.2.2.1⟩) (fun t u => HPL.enc _ u) (fun t u => [NK u.2.2.2.2.2.1])
 (fun _ _ _ => rfl) (fun t u => by kernel_rfl) (fun t u => by kernel_rfl) (fun t u h => Z109 u.2.2.1 u.2.2.2.1 u.2.2.2.2.1 u.2.2.2.2.2.1 u.2.2.2.2.2.2.1 (h _ mS))
noncomputable def E_call_New : Env := envOf (P := Try.prog) [Z15a] [] [] ckf true
def Z4 (a0 : LZ) : LK × LA × LB × LC × LD :=
 ([], (Z1a a0).2.1, (Z1a a0).2.2.1, (Z1a a0).2.2.2.1, (Z1a a0).2.2.2.2)
def call_NewR (a0 : LZ) : RT :=
 (.need [a0.length < 4611686018427387904, ∀ z ∈ a0, z.name.size < 4611686018427387904, (Z1a a0).1 = true]
   (.ask true
     (.leaf .ret ⟨slots 12 [(2, .ptr 0 0)], (.cells 143 [.ptr 1 0, .nils] :: .cells 102 [.map 2, .map 3, .map 4, .map 5] :: oM ((Z1a a0).2.1) ((Z1a a0).2.2.1) ((Z1a a0).2.2.2.1) ((Z1a a0).2.2.2.2) [])⟩ [5, 0, 1, 2, 3, 4])
     .fail))
theorem call_NewF_tr (a0 : LZ) (hp0 : a0.length < 4611686018427387904) (hp1 : ∀ z ∈ a0, z.name.size < 4611686018427387904) (hp2 : (Z1a a0).1 = true) : Tr Try.prog 0 (bodyOf Try.f51) (fnBegins Try.f51 [.coll ⟨.zone, a0⟩] []) (fnEnds Try.prog Try.f51 (.ptr 0 0) (.cells 143 [.ptr 1 0, .vec 2] :: .cells 102 [.map 3, .map 4, .map 5, .map 6] :: .vec false ⟨.call, (Z4 a0).1⟩ :: oM ((Z4 a0).2.1) ((Z4 a0).2.2.1) ((Z4 a0).2.2.2.1) ((Z4 a0).2.2.2.2) [])) := by
 refine Tr.post ?_
 refine Tr_tree (kok _ _ _ _ _ _) (E := E_call_New) (L := noLoops) 60 9999 Z11.none (call_NewR a0) (by kernel_rfl) (by kernel_rfl) (by kernel_rfl) ?_
 unfold call_NewR
 refine ⟨(by (iterate 3 refine Z5 (by (try refine fun (_ : _ = _) => ?_); (try refine fun (_ : _ ∧ _) => ?_); assumption) ?_); exact Z9), ?_⟩
 refine ⟨fun h0 => ?_, fun h0 => ?_⟩
 · have hF : Z4 a0 = ([], (Z1a a0).2.1, (Z1a a0).2.2.1, (Z1a a0).2.2.2.1, (Z1a a0).2.2.2.2) := by first | exact rfl | simp only [Z4, h0, cond_true, cond_false]
   exact ⟨_, (Turn.ownNil 0 1 6 .call rfl rfl (by simp [hset, oM, oV])).trans (Turn.fits (p := ⟨slots 12 [(2, .ptr 0 0)], (.cells 143 [.ptr 1 0, .vec 2] :: .cells 102 [.map 3, .map 4, .map 5, .map 6] :: .vec false ⟨.call, []⟩ :: oM ((Z1a a0).2.1) ((Z1a a0).2.2.1) ((Z1a a0).2.2.2.1) ((Z1a a0).2.2.2.2) [])⟩) [0, 1, 6, 2, 3, 4, 5] (by kernel_rfl) (by kernel_rfl) (by kernel_rfl) (by kernel_rfl)), trivial, .inl (by (try rw [hF]); kernel_rfl), by (try rw [hF]); kernel_rfl⟩
 · exact absurd h0 (by simp)
noncomputable def Z13f : Fact Try.prog := factOf 51 Try.f51 (by kernel_rfl) rfl (by kernel_rfl) [.c (.coll .zone)] [] false (fun t u => .ptr 0 0) (fun t u => (.cells 143 [.ptr 1 0, .vec 2] :: .cells 102 [.map 3, .map 4, .map 5, .map 6] :: .vec false ⟨.call, (Z4 t.1).1⟩ :: oM ((Z4 t.1).2.1) ((Z4 t.1).2.2.1) ((Z4 t.1).2.2.2.1) ((Z4 t.1).2.2.2.2) [])) (fun t u => [t.1.length < 4611686018427387904, ∀ z ∈ t.1, z.name.size < 4611686018427387904, (Z1a t.1).1 = true])
 (nofun) (fun t u => by kernel_rfl) (fun t u => by kernel_rfl) (fun t u h => call_NewF_tr t.1 (h _ mS) (h _ (mN mS)) (h _ (mN (mN mS))))
end Go.Proofs.Ytpffbkbadnhmmaa
