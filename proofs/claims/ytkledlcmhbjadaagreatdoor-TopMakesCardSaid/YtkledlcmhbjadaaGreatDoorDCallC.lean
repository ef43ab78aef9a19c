/- The client: its methods. -/
import Derived.Test.YtkledlcmhbjadaaGreatDoorDNew
import Derived.Test.YtkledlcmhbjadaaGreatDoorDVols
set_option linter.unusedVariables false
set_option linter.unusedSimpArgs false
set_option maxRecDepth 100000
namespace Go.Proofs.YtkledlcmhbjadaaGreatDoor
open Go Go.Eng
noncomputable def Z22c : Env := Z57 (P := Tryz.prog) [Z13e, dD_Do_fact] [] [] ckf true
def Z3 (a1 : XCall) (a2 : Int) (b2 : List XCall) (b3 : List (ByteArray × Int)) (b4 : List (ByteArray × XVn)) (b5 : List (ByteArray × XSn)) (b6 : List (XTgt × XDone)) : XRes × (List (ByteArray × Int)) × (List (ByteArray × XVn)) × (List (ByteArray × XSn)) × (List (XTgt × XDone)) × List XCall :=
 cond (cond (!(Z32 a1)) true (decide (a2 > (3 : Int))))
   ((⟨(2 : Int), (0 : Int), (⟨#[]⟩ : ByteArray), (0 : Int)⟩ : XRes), b3, b4, b5, b6, b2)
   (cond (decide ((b2.length : Int) ≥ (4096 : Int)))
     ((⟨(7 : Int), (0 : Int), (⟨#[]⟩ : ByteArray), (0 : Int)⟩ : XRes), b3, b4, b5, b6, b2)
     (cond (a2 == (0 : Int))
       (((Z2e a1 b3 b4 b5 b6).1), (Z2e a1 b3 b4 b5 b6).2.1, (Z2e a1 b3 b4 b5 b6).2.2.1, (Z2e a1 b3 b4 b5 b6).2.2.2.1, (Z2e a1 b3 b4 b5 b6).2.2.2.2, (b2 ++ [a1]))
       (cond (a2 == (2 : Int))
         ((⟨(13 : Int), (0 : Int), (⟨#[]⟩ : ByteArray), (0 : Int)⟩ : XRes), (Z2e a1 b3 b4 b5 b6).2.1, (Z2e a1 b3 b4 b5 b6).2.2.1, (Z2e a1 b3 b4 b5 b6).2.2.2.1, (Z2e a1 b3 b4 b5 b6).2.2.2.2, (b2 ++ [a1]))
         (cond (a2 == (3 : Int))
           ((⟨(13 : Int), (0 : Int), (⟨#[]⟩ : ByteArray), (0 : Int)⟩ : XRes), b3, b4, b5, b6, (b2 ++ [a1]))
           ((⟨(10 : Int), (0 : Int), (⟨#[]⟩ : ByteArray), (0 : Int)⟩ : XRes), b3, b4, b5, b6, (b2 ++ [a1]))))))
def Z143 (a1 : XCall) (a2 : Int) (b2 : List XCall) (b3 : List (ByteArray × Int)) (b4 : List (ByteArray × XVn)) (b5 : List (ByteArray × XSn)) (b6 : List (XTgt × XDone)) : RT :=
 (.ask false
   .fail
   (.need [CS a1]
     (.ask (cond (!(Z32 a1)) true (decide (a2 > (3 : Int))))
       (.leaf .ret ⟨Z9 66 [(6, .ptr 7 0)], (.cells 65 [.ptr 1 0, .vec 2] :: .cells 89 [.map 3, .map 4, .map 5, .map 6] :: .vec false ⟨.call, b2⟩ :: oM b3 b4 b5 b6 [.cells 44 [.int .i64 2, .int .i64 0, .str (⟨#[]⟩ : ByteArray), .int .u64 0]])⟩ [0, 1, 2, 3, 4, 5, 6, 8])
       (.ask (decide ((b2.length : Int) ≥ (4096 : Int)))
         (.leaf .ret ⟨Z9 66 [(6, .ptr 7 0)], (.cells 65 [.ptr 1 0, .vec 2] :: .cells 89 [.map 3, .map 4, .map 5, .map 6] :: .vec false ⟨.call, b2⟩ :: oM b3 b4 b5 b6 [.cells 44 [.int .i64 7, .int .i64 0, .str (⟨#[]⟩ : ByteArray), .int .u64 0]])⟩ [0, 1, 2, 3, 4, 5, 6, 8])
         (.need [(b2.length + [a1].length) * 88 ≤ Z35 ∧ b2.length + [a1].length ≤ maxLen]
           (.ask (a2 == (0 : Int))
             (.need [CS a1]
               (.leaf .ret ⟨Z9 66 [(6, .ptr 7 0)], (.cells 65 [.ptr 1 0, .vec 8] :: .cells 89 [.map 3, .map 4, .map 5, .map 6] :: .dead :: oM ((Z2e a1 b3 b4 b5 b6).2.1) ((Z2e a1 b3 b4 b5 b6).2.2.1) ((Z2e a1 b3 b4 b5 b6).2.2.2.1) ((Z2e a1 b3 b4 b5 b6).2.2.2.2) [.cells 44 [.int .i64 (((Z2e a1 b3 b4 b5 b6).1).err), .int .i64 (((Z2e a1 b3 b4 b5 b6).1).size), .str (((Z2e a1 b3 b4 b5 b6).1).zone), .int .u64 (((Z2e a1 b3 b4 b5 b6).1).tag)], .vec false ⟨.call, (b2 ++ [a1])⟩])⟩ [0, 1, 2, 3, 4, 5, 6, 8, 10]))
             (.ask (a2 == (2 : Int))
               (.need [CS a1]
                 (.leaf .ret ⟨Z9 66 [(6, .ptr 7 0)], (.cells 65 [.ptr 1 0, .vec 8] :: .cells 89 [.map 3, .map 4, .map 5, .map 6] :: .dead :: oM ((Z2e a1 b3 b4 b5 b6).2.1) ((Z2e a1 b3 b4 b5 b6).2.2.1) ((Z2e a1 b3 b4 b5 b6).2.2.2.1) ((Z2e a1 b3 b4 b5 b6).2.2.2.2) [.cells 44 [.int .i64 13, .int .i64 0, .str (⟨#[]⟩ : ByteArray), .int .u64 0], .vec false ⟨.call, (b2 ++ [a1])⟩])⟩ [0, 1, 2, 3, 4, 5, 6, 8, 10]))
               (.ask (a2 == (3 : Int))
                 (.leaf .ret ⟨Z9 66 [(6, .ptr 7 0)], (.cells 65 [.ptr 1 0, .vec 8] :: .cells 89 [.map 3, .map 4, .map 5, .map 6] :: .dead :: oM b3 b4 b5 b6 [.cells 44 [.int .i64 13, .int .i64 0, .str (⟨#[]⟩ : ByteArray), .int .u64 0], .vec false ⟨.call, (b2 ++ [a1])⟩])⟩ [0, 1, 2, 3, 4, 5, 6, 8, 10])
                 (.leaf .ret ⟨Z9 66 [(6, .ptr 7 0)], (.cells 65 [.ptr 1 0, .vec 8] :: .cells 89 [.map 3, .map 4, .map 5, .map 6] :: .dead :: oM b3 b4 b5 b6 [.cells 44 [.int .i64 10, .int .i64 0, .str (⟨#[]⟩ : ByteArray), .int .u64 0], .vec false ⟨.call, (b2 ++ [a1])⟩])⟩ [0, 1, 2, 3, 4, 5, 6, 8, 10])))))))))
theorem Z1c6 (a1 : XCall) (a2 : Int) (b2 : List XCall) (b3 : List (ByteArray × Int)) (b4 : List (ByteArray × XVn)) (b5 : List (ByteArray × XSn)) (b6 : List (XTgt × XDone)) (hp0 : CS a1) : Tr Tryz.prog 7 (Z3a Tryz.f7) (Z1f Tryz.f7 [.ptr 0 0, .agg (cc a1), .int .u8 a2] (.cells 65 [.ptr 1 0, .vec 2] :: .cells 89 [.map 3, .map 4, .map 5, .map 6] :: .vec false ⟨.call, b2⟩ :: oM b3 b4 b5 b6 [])) (Z4a Tryz.prog Tryz.f7 (.agg [.int .i64 (((Z3 a1 a2 b2 b3 b4 b5 b6).1).err), .int .i64 (((Z3 a1 a2 b2 b3 b4 b5 b6).1).size), .str (((Z3 a1 a2 b2 b3 b4 b5 b6).1).zone), .int .u64 (((Z3 a1 a2 b2 b3 b4 b5 b6).1).tag)]) (.cells 65 [.ptr 1 0, .vec 7] :: .cells 89 [.map 3, .map 4, .map 5, .map 6] :: .dead :: oM ((Z3 a1 a2 b2 b3 b4 b5 b6).2.1) ((Z3 a1 a2 b2 b3 b4 b5 b6).2.2.1) ((Z3 a1 a2 b2 b3 b4 b5 b6).2.2.2.1) ((Z3 a1 a2 b2 b3 b4 b5 b6).2.2.2.2.1) [.vec false ⟨.call, (Z3 a1 a2 b2 b3 b4 b5 b6).2.2.2.2.2⟩])) := by
 refine Tr.post ?_
 refine Z20 (kok _ _ _ _ _ _) (E := Z22c) (L := Z2a) 60 9999 Z14.none (Z143 a1 a2 b2 b3 b4 b5 b6) (by kernel_rfl) (by kernel_rfl) (by kernel_rfl) ?_
 unfold Z143
 refine ⟨fun h0 => ?_, fun h0 => ?_⟩
 · exact absurd h0 (by simp)
 · refine ⟨Z6 (by assumption) (Z10), ?_⟩
   refine ⟨fun h1 => ?_, fun h1 => ?_⟩
   · have hF : Z3 a1 a2 b2 b3 b4 b5 b6 = ((⟨(2 : Int), (0 : Int), (⟨#[]⟩ : ByteArray), (0 : Int)⟩ : XRes), b3, b4, b5, b6, b2) := by first | exact (Zb h1 rfl) | simp only [Z3, h0, h1, cond_true, cond_false]
     exact ⟨_, (Turn.moveC 0 1 2 8 rfl rfl rfl (by simp [hset, oM, oV])).trans (Turn.fits (p := ⟨Z9 66 [(6, .ptr 8 0)], (.cells 65 [.ptr 1 0, .vec 7] :: .cells 89 [.map 3, .map 4, .map 5, .map 6] :: .dead :: oM b3 b4 b5 b6 [.vec false ⟨.call, b2⟩, .cells 44 [.int .i64 2, .int .i64 0, .str (⟨#[]⟩ : ByteArray), .int .u64 0]])⟩) [0, 1, 2, 3, 4, 5, 6, 8, 7] (by kernel_rfl) (by kernel_rfl) (by kernel_rfl) (by kernel_rfl)), trivial, .inl (by (try rw [hF]); kernel_rfl), by (try rw [hF]); kernel_rfl⟩
   · refine ⟨fun h2 => ?_, fun h2 => ?_⟩
     · have hF : Z3 a1 a2 b2 b3 b4 b5 b6 = ((⟨(7 : Int), (0 : Int), (⟨#[]⟩ : ByteArray), (0 : Int)⟩ : XRes), b3, b4, b5, b6, b2) := by first | exact (Z5 h1 (Zb h2 rfl)) | simp only [Z3, h0, h1, h2, cond_true, cond_false]
       exact ⟨_, (Turn.moveC 0 1 2 8 rfl rfl rfl (by simp [hset, oM, oV])).trans (Turn.fits (p := ⟨Z9 66 [(6, .ptr 8 0)], (.cells 65 [.ptr 1 0, .vec 7] :: .cells 89 [.map 3, .map 4, .map 5, .map 6] :: .dead :: oM b3 b4 b5 b6 [.vec false ⟨.call, b2⟩, .cells 44 [.int .i64 7, .int .i64 0, .str (⟨#[]⟩ : ByteArray), .int .u64 0]])⟩) [0, 1, 2, 3, 4, 5, 6, 8, 7] (by kernel_rfl) (by kernel_rfl) (by kernel_rfl) (by kernel_rfl)), trivial, .inl (by (try rw [hF]); kernel_rfl), by (try rw [hF]); kernel_rfl⟩
     · refine ⟨Z6 (by (simp only [decide_eq_false_iff_not] at *); unfold Z35 maxLen; (try simp only [List.length_append, List.length_cons, List.length_nil]); omega) (Z10), ?_⟩
       refine ⟨fun h3 => ?_, fun h3 => ?_⟩
       · refine ⟨Z6 (by assumption) (Z10), ?_⟩
         have hF : Z3 a1 a2 b2 b3 b4 b5 b6 = (((Z2e a1 b3 b4 b5 b6).1), (Z2e a1 b3 b4 b5 b6).2.1, (Z2e a1 b3 b4 b5 b6).2.2.1, (Z2e a1 b3 b4 b5 b6).2.2.2.1, (Z2e a1 b3 b4 b5 b6).2.2.2.2, (b2 ++ [a1])) := by first | exact (Z5 h1 (Z5 h2 (Zb h3 rfl))) | simp only [Z3, h0, h1, h2, h3, cond_true, cond_false]
         exact ⟨_, (Turn.moveC 0 1 8 9 rfl rfl rfl (by simp [hset, oM, oV])).trans (Turn.fits (p := ⟨Z9 66 [(6, .ptr 8 0)], (.cells 65 [.ptr 1 0, .vec 7] :: .cells 89 [.map 3, .map 4, .map 5, .map 6] :: .dead :: oM ((Z2e a1 b3 b4 b5 b6).2.1) ((Z2e a1 b3 b4 b5 b6).2.2.1) ((Z2e a1 b3 b4 b5 b6).2.2.2.1) ((Z2e a1 b3 b4 b5 b6).2.2.2.2) [.vec false ⟨.call, (b2 ++ [a1])⟩, .cells 44 [.int .i64 (((Z2e a1 b3 b4 b5 b6).1).err), .int .i64 (((Z2e a1 b3 b4 b5 b6).1).size), .str (((Z2e a1 b3 b4 b5 b6).1).zone), .int .u64 (((Z2e a1 b3 b4 b5 b6).1).tag)]])⟩) [0, 1, 2, 3, 4, 5, 6, 9, 7] (by kernel_rfl) (by kernel_rfl) (by kernel_rfl) (by kernel_rfl)), trivial, .inl (by (try rw [hF]); kernel_rfl), by (try rw [hF]); kernel_rfl⟩
       · refine ⟨fun h4 => ?_, fun h4 => ?_⟩
         · refine ⟨Z6 (by assumption) (Z10), ?_⟩
           have hF : Z3 a1 a2 b2 b3 b4 b5 b6 = ((⟨(13 : Int), (0 : Int), (⟨#[]⟩ : ByteArray), (0 : Int)⟩ : XRes), (Z2e a1 b3 b4 b5 b6).2.1, (Z2e a1 b3 b4 b5 b6).2.2.1, (Z2e a1 b3 b4 b5 b6).2.2.2.1, (Z2e a1 b3 b4 b5 b6).2.2.2.2, (b2 ++ [a1])) := by first | exact (Z5 h1 (Z5 h2 (Z5 h3 (Zb h4 rfl)))) | simp only [Z3, h0, h1, h2, h3, h4, cond_true, cond_false]
           exact ⟨_, (Turn.moveC 0 1 8 9 rfl rfl rfl (by simp [hset, oM, oV])).trans (Turn.fits (p := ⟨Z9 66 [(6, .ptr 8 0)], (.cells 65 [.ptr 1 0, .vec 7] :: .cells 89 [.map 3, .map 4, .map 5, .map 6] :: .dead :: oM ((Z2e a1 b3 b4 b5 b6).2.1) ((Z2e a1 b3 b4 b5 b6).2.2.1) ((Z2e a1 b3 b4 b5 b6).2.2.2.1) ((Z2e a1 b3 b4 b5 b6).2.2.2.2) [.vec false ⟨.call, (b2 ++ [a1])⟩, .cells 44 [.int .i64 13, .int .i64 0, .str (⟨#[]⟩ : ByteArray), .int .u64 0]])⟩) [0, 1, 2, 3, 4, 5, 6, 9, 7] (by kernel_rfl) (by kernel_rfl) (by kernel_rfl) (by kernel_rfl)), trivial, .inl (by (try rw [hF]); kernel_rfl), by (try rw [hF]); kernel_rfl⟩
         · refine ⟨fun h5 => ?_, fun h5 => ?_⟩
           · have hF : Z3 a1 a2 b2 b3 b4 b5 b6 = ((⟨(13 : Int), (0 : Int), (⟨#[]⟩ : ByteArray), (0 : Int)⟩ : XRes), b3, b4, b5, b6, (b2 ++ [a1])) := by first | exact (Z5 h1 (Z5 h2 (Z5 h3 (Z5 h4 (Zb h5 rfl))))) | simp only [Z3, h0, h1, h2, h3, h4, h5, cond_true, cond_false]
             exact ⟨_, (Turn.moveC 0 1 8 9 rfl rfl rfl (by simp [hset, oM, oV])).trans (Turn.fits (p := ⟨Z9 66 [(6, .ptr 8 0)], (.cells 65 [.ptr 1 0, .vec 7] :: .cells 89 [.map 3, .map 4, .map 5, .map 6] :: .dead :: oM b3 b4 b5 b6 [.vec false ⟨.call, (b2 ++ [a1])⟩, .cells 44 [.int .i64 13, .int .i64 0, .str (⟨#[]⟩ : ByteArray), .int .u64 0]])⟩) [0, 1, 2, 3, 4, 5, 6, 9, 7] (by kernel_rfl) (by kernel_rfl) (by kernel_rfl) (by kernel_rfl)), trivial, .inl (by (try rw [hF]); kernel_rfl), by (try rw [hF]); kernel_rfl⟩
           · have hF : Z3 a1 a2 b2 b3 b4 b5 b6 = ((⟨(10 : Int), (0 : Int), (⟨#[]⟩ : ByteArray), (0 : Int)⟩ : XRes), b3, b4, b5, b6, (b2 ++ [a1])) := by first | exact (Z5 h1 (Z5 h2 (Z5 h3 (Z5 h4 (Z5 h5 rfl))))) | simp only [Z3, h0, h1, h2, h3, h4, h5, cond_true, cond_false]
             exact ⟨_, (Turn.moveC 0 1 8 9 rfl rfl rfl (by simp [hset, oM, oV])).trans (Turn.fits (p := ⟨Z9 66 [(6, .ptr 8 0)], (.cells 65 [.ptr 1 0, .vec 7] :: .cells 89 [.map 3, .map 4, .map 5, .map 6] :: .dead :: oM b3 b4 b5 b6 [.vec false ⟨.call, (b2 ++ [a1])⟩, .cells 44 [.int .i64 10, .int .i64 0, .str (⟨#[]⟩ : ByteArray), .int .u64 0]])⟩) [0, 1, 2, 3, 4, 5, 6, 9, 7] (by kernel_rfl) (by kernel_rfl) (by kernel_rfl) (by kernel_rfl)), trivial, .inl (by (try rw [hF]); kernel_rfl), by (try rw [hF]); kernel_rfl⟩
noncomputable def Z177 : Fact Tryz.prog := Z50 7 Tryz.f7 (by kernel_rfl) rfl (by kernel_rfl) [.c (.ptr 0 0), .st .call, .c (.int .u8)] [.cells 65 [.ptr 1 0, .vec 2], .cells 89 [.map 3, .map 4, .map 5, .map 6], .vec false .call, .map .str (.int .i64), .vols, .map .str .sn, .map .tgt .done] false (fun t u => .agg [.int .i64 (((Z3 t.2.1 t.2.2.1 u.2.2.1 u.2.2.2.1 u.2.2.2.2.1 u.2.2.2.2.2.1 u.2.2.2.2.2.2.1).1).err), .int .i64 (((Z3 t.2.1 t.2.2.1 u.2.2.1 u.2.2.2.1 u.2.2.2.2.1 u.2.2.2.2.2.1 u.2.2.2.2.2.2.1).1).size), .str (((Z3 t.2.1 t.2.2.1 u.2.2.1 u.2.2.2.1 u.2.2.2.2.1 u.2.2.2.2.2.1 u.2.2.2.2.2.2.1).1).zone), .int .u64 (((Z3 t.2.1 t.2.2.1 u.2.2.1 u.2.2.2.1 u.2.2.2.2.1 u.2.2.2.2.2.1 u.2.2.2.2.2.2.1).1).tag)]) (fun t u => (.cells 65 [.ptr 1 0, .vec 7] :: .cells 89 [.map 3, .map 4, .map 5, .map 6] :: .dead :: oM ((Z3 t.2.1 t.2.2.1 u.2.2.1 u.2.2.2.1 u.2.2.2.2.1 u.2.2.2.2.2.1 u.2.2.2.2.2.2.1).2.1) ((Z3 t.2.1 t.2.2.1 u.2.2.1 u.2.2.2.1 u.2.2.2.2.1 u.2.2.2.2.2.1 u.2.2.2.2.2.2.1).2.2.1) ((Z3 t.2.1 t.2.2.1 u.2.2.1 u.2.2.2.1 u.2.2.2.2.1 u.2.2.2.2.2.1 u.2.2.2.2.2.2.1).2.2.2.1) ((Z3 t.2.1 t.2.2.1 u.2.2.1 u.2.2.2.1 u.2.2.2.2.1 u.2.2.2.2.2.1 u.2.2.2.2.2.2.1).2.2.2.2.1) [.vec false ⟨.call, (Z3 t.2.1 t.2.2.1 u.2.2.1 u.2.2.2.1 u.2.2.2.2.1 u.2.2.2.2.2.1 u.2.2.2.2.2.2.1).2.2.2.2.2⟩])) (fun t u => [CS t.2.1])
 (nofun) (fun t u => by kernel_rfl) (fun t u => by kernel_rfl) (fun t u h => Z1c6 t.2.1 t.2.2.1 u.2.2.1 u.2.2.2.1 u.2.2.2.2.1 u.2.2.2.2.2.1 u.2.2.2.2.2.2.1 (h _ List.mem_cons_self))
noncomputable def Z19c : Fact Tryz.prog := Z9f Z177 [.c (.ptr 0 0), .st .call, .c (.int .u8)] [.cells 65 [.ptr 1 0, .vec 2], .cells 89 [.map 3, .map 4, .map 5, .map 6], .vec false .call, .map .str (.int .i64), .vols, .map .str .sn, .map .tgt .done] (fun t u => .agg [.int .i64 (((Z3 t.2.1 t.2.2.1 u.2.2.1 u.2.2.2.1 u.2.2.2.2.1 u.2.2.2.2.2.1 u.2.2.2.2.2.2.1).1).err), .int .i64 (((Z3 t.2.1 t.2.2.1 u.2.2.1 u.2.2.2.1 u.2.2.2.2.1 u.2.2.2.2.2.1 u.2.2.2.2.2.2.1).1).size), .str (((Z3 t.2.1 t.2.2.1 u.2.2.1 u.2.2.2.1 u.2.2.2.2.1 u.2.2.2.2.2.1 u.2.2.2.2.2.2.1).1).zone), .int .u64 (((Z3 t.2.1 t.2.2.1 u.2.2.1 u.2.2.2.1 u.2.2.2.2.1 u.2.2.2.2.2.1 u.2.2.2.2.2.2.1).1).tag)]) (fun t u => (.cells 65 [.ptr 1 0, .vec 7] :: .cells 89 [.map 3, .map 4, .map 5, .map 6] :: .dead :: oM ((Z3 t.2.1 t.2.2.1 u.2.2.1 u.2.2.2.1 u.2.2.2.2.1 u.2.2.2.2.2.1 u.2.2.2.2.2.2.1).2.1) ((Z3 t.2.1 t.2.2.1 u.2.2.1 u.2.2.2.1 u.2.2.2.2.1 u.2.2.2.2.2.1 u.2.2.2.2.2.2.1).2.2.1) ((Z3 t.2.1 t.2.2.1 u.2.2.1 u.2.2.2.1 u.2.2.2.2.1 u.2.2.2.2.2.1 u.2.2.2.2.2.2.1).2.2.2.1) ((Z3 t.2.1 t.2.2.1 u.2.2.1 u.2.2.2.1 u.2.2.2.2.1 u.2.2.2.2.2.1 u.2.2.2.2.2.2.1).2.2.2.2.1) [.vec false ⟨.call, (Z3 t.2.1 t.2.2.1 u.2.2.1 u.2.2.2.1 u.2.2.2.2.1 u.2.2.2.2.2.1 u.2.2.2.2.2.2.1).2.2.2.2.2⟩])) (fun t u => [CS t.2.1]) rfl [1] (by
 intro t u k hk
 obtain rfl := List.mem_singleton.1 hk
 all_goals exact ⟨by decide, rfl⟩)
noncomputable def Z1d0 : Env := Z57 (P := Tryz.prog) [] [] [] ckf
def Z108 (b2 : List XCall) (b3 : List (ByteArray × Int)) (b4 : List (ByteArray × XVn)) (b5 : List (ByteArray × XSn)) (b6 : List (XTgt × XDone)) : RT :=
 (.ask false
   .fail
   (.leaf .ret ⟨Z9 10 [(2, .ptr 1 0)], (.cells 65 [.ptr 1 0, .vec 2] :: .cells 89 [.map 3, .map 4, .map 5, .map 6] :: .vec false ⟨.call, b2⟩ :: oM b3 b4 b5 b6 [])⟩ []))
theorem Z176 (b2 : List XCall) (b3 : List (ByteArray × Int)) (b4 : List (ByteArray × XVn)) (b5 : List (ByteArray × XSn)) (b6 : List (XTgt × XDone))  : Tr Tryz.prog 7 (Z3a Tryz.f31) (Z1f Tryz.f31 [.ptr 0 0] (.cells 65 [.ptr 1 0, .vec 2] :: .cells 89 [.map 3, .map 4, .map 5, .map 6] :: .vec false ⟨.call, b2⟩ :: oM b3 b4 b5 b6 [])) (Z4a Tryz.prog Tryz.f31 (.ptr 1 0) (.cells 65 [.ptr 1 0, .vec 2] :: .cells 89 [.map 3, .map 4, .map 5, .map 6] :: .vec false ⟨.call, b2⟩ :: oM b3 b4 b5 b6 [])) := by
 refine Z20 (kok _ _ _ _ _ _) (E := Z1d0) (L := Z2a) 60 9999 Z14.none (Z108 b2 b3 b4 b5 b6) (by kernel_rfl) (by kernel_rfl) (by kernel_rfl) ?_
 unfold Z108
 refine ⟨fun h0 => ?_, fun h0 => ?_⟩
 · exact absurd h0 (by simp)
 · exact ⟨trivial, .inl (by kernel_rfl), by kernel_rfl⟩
noncomputable def Z15e : Fact Tryz.prog := Z50 31 Tryz.f31 (by kernel_rfl) rfl (by kernel_rfl) [.c (.ptr 0 0)] [.cells 65 [.ptr 1 0, .vec 2], .cells 89 [.map 3, .map 4, .map 5, .map 6], .vec false .call, .map .str (.int .i64), .vols, .map .str .sn, .map .tgt .done] true (fun t u => .ptr 1 0) (fun t u => HPL.enc _ u) (fun t u => [])
 (fun _ _ _ => rfl) (fun t u => by kernel_rfl) (fun t u => by kernel_rfl) (fun t u h => Z176 u.2.2.1 u.2.2.2.1 u.2.2.2.2.1 u.2.2.2.2.2.1 u.2.2.2.2.2.2.1 )
noncomputable def Z1b5 : Env := Z57 (P := Tryz.prog) [Z15e, dD_Volumes_fact] [] [] ckf true
def Z75 (b2 : List XCall) (b3 : List (ByteArray × Int)) (b4 : List (ByteArray × XVn)) (b5 : List (ByteArray × XSn)) (b6 : List (XTgt × XDone)) : List XVol :=
 Z70 b3 b4 b5 b6
def Ze3 (b2 : List XCall) (b3 : List (ByteArray × Int)) (b4 : List (ByteArray × XVn)) (b5 : List (ByteArray × XSn)) (b6 : List (XTgt × XDone)) : RT :=
 (.need [VB b4]
   (.leaf .ret ⟨Z9 6 [(2, .coll ⟨.vol, Z70 b3 b4 b5 b6⟩)], (.cells 65 [.ptr 1 0, .vec 2] :: .cells 89 [.map 3, .map 4, .map 5, .map 6] :: .vec false ⟨.call, b2⟩ :: oM b3 b4 b5 b6 [])⟩ []))
theorem Z15f (b2 : List XCall) (b3 : List (ByteArray × Int)) (b4 : List (ByteArray × XVn)) (b5 : List (ByteArray × XSn)) (b6 : List (XTgt × XDone)) (hp0 : VB b4) : Tr Tryz.prog 7 (Z3a Tryz.f9) (Z1f Tryz.f9 [.ptr 0 0] (.cells 65 [.ptr 1 0, .vec 2] :: .cells 89 [.map 3, .map 4, .map 5, .map 6] :: .vec false ⟨.call, b2⟩ :: oM b3 b4 b5 b6 [])) (Z4a Tryz.prog Tryz.f9 (.coll ⟨.vol, Z75 b2 b3 b4 b5 b6⟩) (.cells 65 [.ptr 1 0, .vec 2] :: .cells 89 [.map 3, .map 4, .map 5, .map 6] :: .vec false ⟨.call, b2⟩ :: oM b3 b4 b5 b6 [])) := by
 refine Z20 (kok _ _ _ _ _ _) (E := Z1b5) (L := Z2a) 60 9999 Z14.none (Ze3 b2 b3 b4 b5 b6) (by kernel_rfl) (by kernel_rfl) (by kernel_rfl) ?_
 unfold Ze3
 refine ⟨Z6 (by assumption) (Z10), ?_⟩
 exact ⟨trivial, .inl (by kernel_rfl), by kernel_rfl⟩
noncomputable def Z142 : Fact Tryz.prog := Z50 9 Tryz.f9 (by kernel_rfl) rfl (by kernel_rfl) [.c (.ptr 0 0)] [.cells 65 [.ptr 1 0, .vec 2], .cells 89 [.map 3, .map 4, .map 5, .map 6], .vec false .call, .map .str (.int .i64), .vols, .map .str .sn, .map .tgt .done] true (fun t u => .coll ⟨.vol, Z75 u.2.2.1 u.2.2.2.1 u.2.2.2.2.1 u.2.2.2.2.2.1 u.2.2.2.2.2.2.1⟩) (fun t u => HPL.enc _ u) (fun t u => [VB u.2.2.2.2.1])
 (fun _ _ _ => rfl) (fun t u => by kernel_rfl) (fun t u => by kernel_rfl) (fun t u h => Z15f u.2.2.1 u.2.2.2.1 u.2.2.2.2.1 u.2.2.2.2.2.1 u.2.2.2.2.2.2.1 (h _ List.mem_cons_self))
noncomputable def E_call_New : Env := Z57 (P := Tryz.prog) [Z26e] [] [] ckf true
def Zd (a0 : List XZone) : List XCall × (List (ByteArray × Int)) × (List (ByteArray × XVn)) × (List (ByteArray × XSn)) × (List (XTgt × XDone)) :=
 ([], (Z29 a0).2.1, (Z29 a0).2.2.1, (Z29 a0).2.2.2.1, (Z29 a0).2.2.2.2)
def call_NewR (a0 : List XZone) : RT :=
 (.need [a0.length < 4611686018427387904, ∀ z ∈ a0, z.name.size < 4611686018427387904, (Z29 a0).1 = true]
   (.ask true
     (.leaf .ret ⟨Z9 12 [(2, .ptr 0 0)], (.cells 65 [.ptr 1 0, .nils] :: .cells 89 [.map 2, .map 3, .map 4, .map 5] :: oM ((Z29 a0).2.1) ((Z29 a0).2.2.1) ((Z29 a0).2.2.2.1) ((Z29 a0).2.2.2.2) [])⟩ [5, 0, 1, 2, 3, 4])
     .fail))
theorem call_NewF_tr (a0 : List XZone) (hp0 : a0.length < 4611686018427387904) (hp1 : ∀ z ∈ a0, z.name.size < 4611686018427387904) (hp2 : (Z29 a0).1 = true) : Tr Tryz.prog 0 (Z3a Tryz.f5) (Z1f Tryz.f5 [.coll ⟨.zone, a0⟩] []) (Z4a Tryz.prog Tryz.f5 (.ptr 0 0) (.cells 65 [.ptr 1 0, .vec 2] :: .cells 89 [.map 3, .map 4, .map 5, .map 6] :: .vec false ⟨.call, (Zd a0).1⟩ :: oM ((Zd a0).2.1) ((Zd a0).2.2.1) ((Zd a0).2.2.2.1) ((Zd a0).2.2.2.2) [])) := by
 refine Tr.post ?_
 refine Z20 (kok _ _ _ _ _ _) (E := E_call_New) (L := Z2a) 60 9999 Z14.none (call_NewR a0) (by kernel_rfl) (by kernel_rfl) (by kernel_rfl) ?_
 unfold call_NewR
 refine ⟨(by (iterate 3 refine Z6 (by assumption) ?_); exact Z10), ?_⟩
 refine ⟨fun h0 => ?_, fun h0 => ?_⟩
 · have hF : Zd a0 = ([], (Z29 a0).2.1, (Z29 a0).2.2.1, (Z29 a0).2.2.2.1, (Z29 a0).2.2.2.2) := by first | exact rfl | simp only [Zd, h0, cond_true, cond_false]
   exact ⟨_, (Turn.ownNil 0 1 6 .call rfl rfl (by simp [hset, oM, oV])).trans (Turn.fits (p := ⟨Z9 12 [(2, .ptr 0 0)], (.cells 65 [.ptr 1 0, .vec 2] :: .cells 89 [.map 3, .map 4, .map 5, .map 6] :: .vec false ⟨.call, []⟩ :: oM ((Z29 a0).2.1) ((Z29 a0).2.2.1) ((Z29 a0).2.2.2.1) ((Z29 a0).2.2.2.2) [])⟩) [0, 1, 6, 2, 3, 4, 5] (by kernel_rfl) (by kernel_rfl) (by kernel_rfl) (by kernel_rfl)), trivial, .inl (by (try rw [hF]); kernel_rfl), by (try rw [hF]); kernel_rfl⟩
 · exact absurd h0 (by simp)
noncomputable def call_New_fact : Fact Tryz.prog := Z50 5 Tryz.f5 (by kernel_rfl) rfl (by kernel_rfl) [.c (.coll .zone)] [] false (fun t u => .ptr 0 0) (fun t u => (.cells 65 [.ptr 1 0, .vec 2] :: .cells 89 [.map 3, .map 4, .map 5, .map 6] :: .vec false ⟨.call, (Zd t.1).1⟩ :: oM ((Zd t.1).2.1) ((Zd t.1).2.2.1) ((Zd t.1).2.2.2.1) ((Zd t.1).2.2.2.2) [])) (fun t u => [t.1.length < 4611686018427387904, ∀ z ∈ t.1, z.name.size < 4611686018427387904, (Z29 t.1).1 = true])
 (nofun) (fun t u => by kernel_rfl) (fun t u => by kernel_rfl) (fun t u h => call_NewF_tr t.1 (h _ List.mem_cons_self) (h _ (List.mem_cons_of_mem _ List.mem_cons_self)) (h _ (List.mem_cons_of_mem _ (List.mem_cons_of_mem _ List.mem_cons_self))))
end Go.Proofs.YtkledlcmhbjadaaGreatDoor
