/- The client: its methods. -/
import Derived.Test.YtkledlcmhbjadaaGreatDoorDNew
import Derived.Test.YtkledlcmhbjadaaGreatDoorDVols
set_option linter.unusedVariables false
set_option linter.unusedSimpArgs false
set_option maxRecDepth 100000
namespace Go.Proofs.YtkledlcmhbjadaaGreatDoor
open Go Go.Eng
noncomputable def E_call_Client_Send : Env := envOf (P := Tryz.prog) [driver_Right_fact, dD_Do_fact] [] [] ckf true
def call_Client_SendF (a1 : XCall) (a2 : Int) (b2 : List XCall) (b3 : List (ByteArray × Int)) (b4 : List (ByteArray × XVn)) (b5 : List (ByteArray × XSn)) (b6 : List (XTgt × XDone)) : XRes × (List (ByteArray × Int)) × (List (ByteArray × XVn)) × (List (ByteArray × XSn)) × (List (XTgt × XDone)) × List XCall :=
 cond (cond (!(driver_RightF a1)) true (decide (a2 > (3 : Int))))
   ((⟨(2 : Int), (0 : Int), (⟨#[]⟩ : ByteArray), (0 : Int)⟩ : XRes), b3, b4, b5, b6, b2)
   (cond (decide ((b2.length : Int) ≥ (4096 : Int)))
     ((⟨(7 : Int), (0 : Int), (⟨#[]⟩ : ByteArray), (0 : Int)⟩ : XRes), b3, b4, b5, b6, b2)
     (cond (a2 == (0 : Int))
       (((dD_DoF a1 b3 b4 b5 b6).1), (dD_DoF a1 b3 b4 b5 b6).2.1, (dD_DoF a1 b3 b4 b5 b6).2.2.1, (dD_DoF a1 b3 b4 b5 b6).2.2.2.1, (dD_DoF a1 b3 b4 b5 b6).2.2.2.2, (b2 ++ [a1]))
       (cond (a2 == (2 : Int))
         ((⟨(13 : Int), (0 : Int), (⟨#[]⟩ : ByteArray), (0 : Int)⟩ : XRes), (dD_DoF a1 b3 b4 b5 b6).2.1, (dD_DoF a1 b3 b4 b5 b6).2.2.1, (dD_DoF a1 b3 b4 b5 b6).2.2.2.1, (dD_DoF a1 b3 b4 b5 b6).2.2.2.2, (b2 ++ [a1]))
         (cond (a2 == (3 : Int))
           ((⟨(13 : Int), (0 : Int), (⟨#[]⟩ : ByteArray), (0 : Int)⟩ : XRes), b3, b4, b5, b6, (b2 ++ [a1]))
           ((⟨(10 : Int), (0 : Int), (⟨#[]⟩ : ByteArray), (0 : Int)⟩ : XRes), b3, b4, b5, b6, (b2 ++ [a1]))))))
def call_Client_SendR (a1 : XCall) (a2 : Int) (b2 : List XCall) (b3 : List (ByteArray × Int)) (b4 : List (ByteArray × XVn)) (b5 : List (ByteArray × XSn)) (b6 : List (XTgt × XDone)) : RT :=
 (.ask false
   .fail
   (.need [CS a1]
     (.ask (cond (!(driver_RightF a1)) true (decide (a2 > (3 : Int))))
       (.leaf .ret ⟨slots 66 [(6, .ptr 7 0)], (.cells 65 [.ptr 1 0, .vec 2] :: .cells 89 [.map 3, .map 4, .map 5, .map 6] :: .vec false ⟨.call, b2⟩ :: oM b3 b4 b5 b6 [.cells 44 [.int .i64 2, .int .i64 0, .str (⟨#[]⟩ : ByteArray), .int .u64 0]])⟩ [0, 1, 2, 3, 4, 5, 6, 8])
       (.ask (decide ((b2.length : Int) ≥ (4096 : Int)))
         (.leaf .ret ⟨slots 66 [(6, .ptr 7 0)], (.cells 65 [.ptr 1 0, .vec 2] :: .cells 89 [.map 3, .map 4, .map 5, .map 6] :: .vec false ⟨.call, b2⟩ :: oM b3 b4 b5 b6 [.cells 44 [.int .i64 7, .int .i64 0, .str (⟨#[]⟩ : ByteArray), .int .u64 0]])⟩ [0, 1, 2, 3, 4, 5, 6, 8])
         (.need [(b2.length + [a1].length) * 88 ≤ bytesLim ∧ b2.length + [a1].length ≤ maxLen]
           (.ask (a2 == (0 : Int))
             (.need [CS a1]
               (.leaf .ret ⟨slots 66 [(6, .ptr 7 0)], (.cells 65 [.ptr 1 0, .vec 8] :: .cells 89 [.map 3, .map 4, .map 5, .map 6] :: .dead :: oM ((dD_DoF a1 b3 b4 b5 b6).2.1) ((dD_DoF a1 b3 b4 b5 b6).2.2.1) ((dD_DoF a1 b3 b4 b5 b6).2.2.2.1) ((dD_DoF a1 b3 b4 b5 b6).2.2.2.2) [.cells 44 [.int .i64 (((dD_DoF a1 b3 b4 b5 b6).1).err), .int .i64 (((dD_DoF a1 b3 b4 b5 b6).1).size), .str (((dD_DoF a1 b3 b4 b5 b6).1).zone), .int .u64 (((dD_DoF a1 b3 b4 b5 b6).1).tag)], .vec false ⟨.call, (b2 ++ [a1])⟩])⟩ [0, 1, 2, 3, 4, 5, 6, 8, 10]))
             (.ask (a2 == (2 : Int))
               (.need [CS a1]
                 (.leaf .ret ⟨slots 66 [(6, .ptr 7 0)], (.cells 65 [.ptr 1 0, .vec 8] :: .cells 89 [.map 3, .map 4, .map 5, .map 6] :: .dead :: oM ((dD_DoF a1 b3 b4 b5 b6).2.1) ((dD_DoF a1 b3 b4 b5 b6).2.2.1) ((dD_DoF a1 b3 b4 b5 b6).2.2.2.1) ((dD_DoF a1 b3 b4 b5 b6).2.2.2.2) [.cells 44 [.int .i64 13, .int .i64 0, .str (⟨#[]⟩ : ByteArray), .int .u64 0], .vec false ⟨.call, (b2 ++ [a1])⟩])⟩ [0, 1, 2, 3, 4, 5, 6, 8, 10]))
               (.ask (a2 == (3 : Int))
                 (.leaf .ret ⟨slots 66 [(6, .ptr 7 0)], (.cells 65 [.ptr 1 0, .vec 8] :: .cells 89 [.map 3, .map 4, .map 5, .map 6] :: .dead :: oM b3 b4 b5 b6 [.cells 44 [.int .i64 13, .int .i64 0, .str (⟨#[]⟩ : ByteArray), .int .u64 0], .vec false ⟨.call, (b2 ++ [a1])⟩])⟩ [0, 1, 2, 3, 4, 5, 6, 8, 10])
                 (.leaf .ret ⟨slots 66 [(6, .ptr 7 0)], (.cells 65 [.ptr 1 0, .vec 8] :: .cells 89 [.map 3, .map 4, .map 5, .map 6] :: .dead :: oM b3 b4 b5 b6 [.cells 44 [.int .i64 10, .int .i64 0, .str (⟨#[]⟩ : ByteArray), .int .u64 0], .vec false ⟨.call, (b2 ++ [a1])⟩])⟩ [0, 1, 2, 3, 4, 5, 6, 8, 10])))))))))
theorem call_Client_SendF_tr (a1 : XCall) (a2 : Int) (b2 : List XCall) (b3 : List (ByteArray × Int)) (b4 : List (ByteArray × XVn)) (b5 : List (ByteArray × XSn)) (b6 : List (XTgt × XDone)) (hp0 : CS a1) : Tr Tryz.prog 7 (bodyOf Tryz.f7) (fnBegins Tryz.f7 [.ptr 0 0, .agg (cc a1), .int .u8 a2] (.cells 65 [.ptr 1 0, .vec 2] :: .cells 89 [.map 3, .map 4, .map 5, .map 6] :: .vec false ⟨.call, b2⟩ :: oM b3 b4 b5 b6 [])) (fnEnds Tryz.prog Tryz.f7 (.agg [.int .i64 (((call_Client_SendF a1 a2 b2 b3 b4 b5 b6).1).err), .int .i64 (((call_Client_SendF a1 a2 b2 b3 b4 b5 b6).1).size), .str (((call_Client_SendF a1 a2 b2 b3 b4 b5 b6).1).zone), .int .u64 (((call_Client_SendF a1 a2 b2 b3 b4 b5 b6).1).tag)]) (.cells 65 [.ptr 1 0, .vec 7] :: .cells 89 [.map 3, .map 4, .map 5, .map 6] :: .dead :: oM ((call_Client_SendF a1 a2 b2 b3 b4 b5 b6).2.1) ((call_Client_SendF a1 a2 b2 b3 b4 b5 b6).2.2.1) ((call_Client_SendF a1 a2 b2 b3 b4 b5 b6).2.2.2.1) ((call_Client_SendF a1 a2 b2 b3 b4 b5 b6).2.2.2.2.1) [.vec false ⟨.call, (call_Client_SendF a1 a2 b2 b3 b4 b5 b6).2.2.2.2.2⟩])) := by
 refine Tr.post ?_
 refine Tr_tree (kok _ _ _ _ _ _) (E := E_call_Client_Send) (L := noLoops) 60 9999 LoopsOk.none (call_Client_SendR a1 a2 b2 b3 b4 b5 b6) (by kernel_rfl) (by kernel_rfl) (by kernel_rfl) ?_
 unfold call_Client_SendR
 refine ⟨fun h0 => ?_, fun h0 => ?_⟩
 · exact absurd h0 (by simp)
 · refine ⟨need_cons (by (try refine fun (_ : _ = _) => ?_); (try refine fun (_ : _ ∧ _) => ?_); assumption) (need_nil), ?_⟩
   refine ⟨fun h1 => ?_, fun h1 => ?_⟩
   · have hF : call_Client_SendF a1 a2 b2 b3 b4 b5 b6 = ((⟨(2 : Int), (0 : Int), (⟨#[]⟩ : ByteArray), (0 : Int)⟩ : XRes), b3, b4, b5, b6, b2) := by first | exact (cond_t h1 rfl) | simp only [call_Client_SendF, h0, h1, cond_true, cond_false]
     exact ⟨_, (Turn.moveC 0 1 2 8 rfl rfl rfl (by simp [hset, oM, oV])).trans (Turn.fits (p := ⟨slots 66 [(6, .ptr 8 0)], (.cells 65 [.ptr 1 0, .vec 7] :: .cells 89 [.map 3, .map 4, .map 5, .map 6] :: .dead :: oM b3 b4 b5 b6 [.vec false ⟨.call, b2⟩, .cells 44 [.int .i64 2, .int .i64 0, .str (⟨#[]⟩ : ByteArray), .int .u64 0]])⟩) [0, 1, 2, 3, 4, 5, 6, 8, 7] (by kernel_rfl) (by kernel_rfl) (by kernel_rfl) (by kernel_rfl)), trivial, .inl (by (try rw [hF]); kernel_rfl), by (try rw [hF]); kernel_rfl⟩
   · refine ⟨fun h2 => ?_, fun h2 => ?_⟩
     · have hF : call_Client_SendF a1 a2 b2 b3 b4 b5 b6 = ((⟨(7 : Int), (0 : Int), (⟨#[]⟩ : ByteArray), (0 : Int)⟩ : XRes), b3, b4, b5, b6, b2) := by first | exact (cond_f h1 (cond_t h2 rfl)) | simp only [call_Client_SendF, h0, h1, h2, cond_true, cond_false]
       exact ⟨_, (Turn.moveC 0 1 2 8 rfl rfl rfl (by simp [hset, oM, oV])).trans (Turn.fits (p := ⟨slots 66 [(6, .ptr 8 0)], (.cells 65 [.ptr 1 0, .vec 7] :: .cells 89 [.map 3, .map 4, .map 5, .map 6] :: .dead :: oM b3 b4 b5 b6 [.vec false ⟨.call, b2⟩, .cells 44 [.int .i64 7, .int .i64 0, .str (⟨#[]⟩ : ByteArray), .int .u64 0]])⟩) [0, 1, 2, 3, 4, 5, 6, 8, 7] (by kernel_rfl) (by kernel_rfl) (by kernel_rfl) (by kernel_rfl)), trivial, .inl (by (try rw [hF]); kernel_rfl), by (try rw [hF]); kernel_rfl⟩
     · refine ⟨need_cons (by (try refine fun (_ : _ = _) => ?_); (try refine fun (_ : _ ∧ _) => ?_); (simp only [decide_eq_false_iff_not] at *); unfold bytesLim maxLen; (try simp only [List.length_append, List.length_cons, List.length_nil]); omega) (need_nil), ?_⟩
       refine ⟨fun h3 => ?_, fun h3 => ?_⟩
       · refine ⟨need_cons (by (try refine fun (_ : _ = _) => ?_); (try refine fun (_ : _ ∧ _) => ?_); assumption) (need_nil), ?_⟩
         have hF : call_Client_SendF a1 a2 b2 b3 b4 b5 b6 = (((dD_DoF a1 b3 b4 b5 b6).1), (dD_DoF a1 b3 b4 b5 b6).2.1, (dD_DoF a1 b3 b4 b5 b6).2.2.1, (dD_DoF a1 b3 b4 b5 b6).2.2.2.1, (dD_DoF a1 b3 b4 b5 b6).2.2.2.2, (b2 ++ [a1])) := by first | exact (cond_f h1 (cond_f h2 (cond_t h3 rfl))) | simp only [call_Client_SendF, h0, h1, h2, h3, cond_true, cond_false]
         exact ⟨_, (Turn.moveC 0 1 8 9 rfl rfl rfl (by simp [hset, oM, oV])).trans (Turn.fits (p := ⟨slots 66 [(6, .ptr 8 0)], (.cells 65 [.ptr 1 0, .vec 7] :: .cells 89 [.map 3, .map 4, .map 5, .map 6] :: .dead :: oM ((dD_DoF a1 b3 b4 b5 b6).2.1) ((dD_DoF a1 b3 b4 b5 b6).2.2.1) ((dD_DoF a1 b3 b4 b5 b6).2.2.2.1) ((dD_DoF a1 b3 b4 b5 b6).2.2.2.2) [.vec false ⟨.call, (b2 ++ [a1])⟩, .cells 44 [.int .i64 (((dD_DoF a1 b3 b4 b5 b6).1).err), .int .i64 (((dD_DoF a1 b3 b4 b5 b6).1).size), .str (((dD_DoF a1 b3 b4 b5 b6).1).zone), .int .u64 (((dD_DoF a1 b3 b4 b5 b6).1).tag)]])⟩) [0, 1, 2, 3, 4, 5, 6, 9, 7] (by kernel_rfl) (by kernel_rfl) (by kernel_rfl) (by kernel_rfl)), trivial, .inl (by (try rw [hF]); kernel_rfl), by (try rw [hF]); kernel_rfl⟩
       · refine ⟨fun h4 => ?_, fun h4 => ?_⟩
         · refine ⟨need_cons (by (try refine fun (_ : _ = _) => ?_); (try refine fun (_ : _ ∧ _) => ?_); assumption) (need_nil), ?_⟩
           have hF : call_Client_SendF a1 a2 b2 b3 b4 b5 b6 = ((⟨(13 : Int), (0 : Int), (⟨#[]⟩ : ByteArray), (0 : Int)⟩ : XRes), (dD_DoF a1 b3 b4 b5 b6).2.1, (dD_DoF a1 b3 b4 b5 b6).2.2.1, (dD_DoF a1 b3 b4 b5 b6).2.2.2.1, (dD_DoF a1 b3 b4 b5 b6).2.2.2.2, (b2 ++ [a1])) := by first | exact (cond_f h1 (cond_f h2 (cond_f h3 (cond_t h4 rfl)))) | simp only [call_Client_SendF, h0, h1, h2, h3, h4, cond_true, cond_false]
           exact ⟨_, (Turn.moveC 0 1 8 9 rfl rfl rfl (by simp [hset, oM, oV])).trans (Turn.fits (p := ⟨slots 66 [(6, .ptr 8 0)], (.cells 65 [.ptr 1 0, .vec 7] :: .cells 89 [.map 3, .map 4, .map 5, .map 6] :: .dead :: oM ((dD_DoF a1 b3 b4 b5 b6).2.1) ((dD_DoF a1 b3 b4 b5 b6).2.2.1) ((dD_DoF a1 b3 b4 b5 b6).2.2.2.1) ((dD_DoF a1 b3 b4 b5 b6).2.2.2.2) [.vec false ⟨.call, (b2 ++ [a1])⟩, .cells 44 [.int .i64 13, .int .i64 0, .str (⟨#[]⟩ : ByteArray), .int .u64 0]])⟩) [0, 1, 2, 3, 4, 5, 6, 9, 7] (by kernel_rfl) (by kernel_rfl) (by kernel_rfl) (by kernel_rfl)), trivial, .inl (by (try rw [hF]); kernel_rfl), by (try rw [hF]); kernel_rfl⟩
         · refine ⟨fun h5 => ?_, fun h5 => ?_⟩
           · have hF : call_Client_SendF a1 a2 b2 b3 b4 b5 b6 = ((⟨(13 : Int), (0 : Int), (⟨#[]⟩ : ByteArray), (0 : Int)⟩ : XRes), b3, b4, b5, b6, (b2 ++ [a1])) := by first | exact (cond_f h1 (cond_f h2 (cond_f h3 (cond_f h4 (cond_t h5 rfl))))) | simp only [call_Client_SendF, h0, h1, h2, h3, h4, h5, cond_true, cond_false]
             exact ⟨_, (Turn.moveC 0 1 8 9 rfl rfl rfl (by simp [hset, oM, oV])).trans (Turn.fits (p := ⟨slots 66 [(6, .ptr 8 0)], (.cells 65 [.ptr 1 0, .vec 7] :: .cells 89 [.map 3, .map 4, .map 5, .map 6] :: .dead :: oM b3 b4 b5 b6 [.vec false ⟨.call, (b2 ++ [a1])⟩, .cells 44 [.int .i64 13, .int .i64 0, .str (⟨#[]⟩ : ByteArray), .int .u64 0]])⟩) [0, 1, 2, 3, 4, 5, 6, 9, 7] (by kernel_rfl) (by kernel_rfl) (by kernel_rfl) (by kernel_rfl)), trivial, .inl (by (try rw [hF]); kernel_rfl), by (try rw [hF]); kernel_rfl⟩
           · have hF : call_Client_SendF a1 a2 b2 b3 b4 b5 b6 = ((⟨(10 : Int), (0 : Int), (⟨#[]⟩ : ByteArray), (0 : Int)⟩ : XRes), b3, b4, b5, b6, (b2 ++ [a1])) := by first | exact (cond_f h1 (cond_f h2 (cond_f h3 (cond_f h4 (cond_f h5 rfl))))) | simp only [call_Client_SendF, h0, h1, h2, h3, h4, h5, cond_true, cond_false]
             exact ⟨_, (Turn.moveC 0 1 8 9 rfl rfl rfl (by simp [hset, oM, oV])).trans (Turn.fits (p := ⟨slots 66 [(6, .ptr 8 0)], (.cells 65 [.ptr 1 0, .vec 7] :: .cells 89 [.map 3, .map 4, .map 5, .map 6] :: .dead :: oM b3 b4 b5 b6 [.vec false ⟨.call, (b2 ++ [a1])⟩, .cells 44 [.int .i64 10, .int .i64 0, .str (⟨#[]⟩ : ByteArray), .int .u64 0]])⟩) [0, 1, 2, 3, 4, 5, 6, 9, 7] (by kernel_rfl) (by kernel_rfl) (by kernel_rfl) (by kernel_rfl)), trivial, .inl (by (try rw [hF]); kernel_rfl), by (try rw [hF]); kernel_rfl⟩
noncomputable def call_Client_Send_fact0 : Fact Tryz.prog := factOf 7 Tryz.f7 (by kernel_rfl) rfl (by kernel_rfl) [.c (.ptr 0 0), .st .call, .c (.int .u8)] [.cells 65 [.ptr 1 0, .vec 2], .cells 89 [.map 3, .map 4, .map 5, .map 6], .vec false .call, .map .str (.int .i64), .vols, .map .str .sn, .map .tgt .done] false (fun t u => .agg [.int .i64 (((call_Client_SendF t.2.1 t.2.2.1 u.2.2.1 u.2.2.2.1 u.2.2.2.2.1 u.2.2.2.2.2.1 u.2.2.2.2.2.2.1).1).err), .int .i64 (((call_Client_SendF t.2.1 t.2.2.1 u.2.2.1 u.2.2.2.1 u.2.2.2.2.1 u.2.2.2.2.2.1 u.2.2.2.2.2.2.1).1).size), .str (((call_Client_SendF t.2.1 t.2.2.1 u.2.2.1 u.2.2.2.1 u.2.2.2.2.1 u.2.2.2.2.2.1 u.2.2.2.2.2.2.1).1).zone), .int .u64 (((call_Client_SendF t.2.1 t.2.2.1 u.2.2.1 u.2.2.2.1 u.2.2.2.2.1 u.2.2.2.2.2.1 u.2.2.2.2.2.2.1).1).tag)]) (fun t u => (.cells 65 [.ptr 1 0, .vec 7] :: .cells 89 [.map 3, .map 4, .map 5, .map 6] :: .dead :: oM ((call_Client_SendF t.2.1 t.2.2.1 u.2.2.1 u.2.2.2.1 u.2.2.2.2.1 u.2.2.2.2.2.1 u.2.2.2.2.2.2.1).2.1) ((call_Client_SendF t.2.1 t.2.2.1 u.2.2.1 u.2.2.2.1 u.2.2.2.2.1 u.2.2.2.2.2.1 u.2.2.2.2.2.2.1).2.2.1) ((call_Client_SendF t.2.1 t.2.2.1 u.2.2.1 u.2.2.2.1 u.2.2.2.2.1 u.2.2.2.2.2.1 u.2.2.2.2.2.2.1).2.2.2.1) ((call_Client_SendF t.2.1 t.2.2.1 u.2.2.1 u.2.2.2.1 u.2.2.2.2.1 u.2.2.2.2.2.1 u.2.2.2.2.2.2.1).2.2.2.2.1) [.vec false ⟨.call, (call_Client_SendF t.2.1 t.2.2.1 u.2.2.1 u.2.2.2.1 u.2.2.2.2.1 u.2.2.2.2.2.1 u.2.2.2.2.2.2.1).2.2.2.2.2⟩])) (fun t u => [CS t.2.1])
 (nofun) (fun t u => by kernel_rfl) (fun t u => by kernel_rfl) (fun t u h => call_Client_SendF_tr t.2.1 t.2.2.1 u.2.2.1 u.2.2.2.1 u.2.2.2.2.1 u.2.2.2.2.2.1 u.2.2.2.2.2.2.1 (h _ List.mem_cons_self))
noncomputable def call_Client_Send_fact : Fact Tryz.prog := factThin call_Client_Send_fact0 [.c (.ptr 0 0), .st .call, .c (.int .u8)] [.cells 65 [.ptr 1 0, .vec 2], .cells 89 [.map 3, .map 4, .map 5, .map 6], .vec false .call, .map .str (.int .i64), .vols, .map .str .sn, .map .tgt .done] (fun t u => .agg [.int .i64 (((call_Client_SendF t.2.1 t.2.2.1 u.2.2.1 u.2.2.2.1 u.2.2.2.2.1 u.2.2.2.2.2.1 u.2.2.2.2.2.2.1).1).err), .int .i64 (((call_Client_SendF t.2.1 t.2.2.1 u.2.2.1 u.2.2.2.1 u.2.2.2.2.1 u.2.2.2.2.2.1 u.2.2.2.2.2.2.1).1).size), .str (((call_Client_SendF t.2.1 t.2.2.1 u.2.2.1 u.2.2.2.1 u.2.2.2.2.1 u.2.2.2.2.2.1 u.2.2.2.2.2.2.1).1).zone), .int .u64 (((call_Client_SendF t.2.1 t.2.2.1 u.2.2.1 u.2.2.2.1 u.2.2.2.2.1 u.2.2.2.2.2.1 u.2.2.2.2.2.2.1).1).tag)]) (fun t u => (.cells 65 [.ptr 1 0, .vec 7] :: .cells 89 [.map 3, .map 4, .map 5, .map 6] :: .dead :: oM ((call_Client_SendF t.2.1 t.2.2.1 u.2.2.1 u.2.2.2.1 u.2.2.2.2.1 u.2.2.2.2.2.1 u.2.2.2.2.2.2.1).2.1) ((call_Client_SendF t.2.1 t.2.2.1 u.2.2.1 u.2.2.2.1 u.2.2.2.2.1 u.2.2.2.2.2.1 u.2.2.2.2.2.2.1).2.2.1) ((call_Client_SendF t.2.1 t.2.2.1 u.2.2.1 u.2.2.2.1 u.2.2.2.2.1 u.2.2.2.2.2.1 u.2.2.2.2.2.2.1).2.2.2.1) ((call_Client_SendF t.2.1 t.2.2.1 u.2.2.1 u.2.2.2.1 u.2.2.2.2.1 u.2.2.2.2.2.1 u.2.2.2.2.2.2.1).2.2.2.2.1) [.vec false ⟨.call, (call_Client_SendF t.2.1 t.2.2.1 u.2.2.1 u.2.2.2.1 u.2.2.2.2.1 u.2.2.2.2.2.1 u.2.2.2.2.2.2.1).2.2.2.2.2⟩])) (fun t u => [CS t.2.1]) rfl [1] (by
 intro t u k hk
 obtain rfl := List.mem_singleton.1 hk
 all_goals exact ⟨by decide, rfl⟩)
noncomputable def E_call_Client_driver : Env := envOf (P := Tryz.prog) [] [] [] ckf
def call_Client_driverR (b2 : List XCall) (b3 : List (ByteArray × Int)) (b4 : List (ByteArray × XVn)) (b5 : List (ByteArray × XSn)) (b6 : List (XTgt × XDone)) : RT :=
 (.ask false
   .fail
   (.leaf .ret ⟨slots 10 [(2, .ptr 1 0)], (.cells 65 [.ptr 1 0, .vec 2] :: .cells 89 [.map 3, .map 4, .map 5, .map 6] :: .vec false ⟨.call, b2⟩ :: oM b3 b4 b5 b6 [])⟩ []))
theorem call_Client_driverF_tr (b2 : List XCall) (b3 : List (ByteArray × Int)) (b4 : List (ByteArray × XVn)) (b5 : List (ByteArray × XSn)) (b6 : List (XTgt × XDone))  : Tr Tryz.prog 7 (bodyOf Tryz.f31) (fnBegins Tryz.f31 [.ptr 0 0] (.cells 65 [.ptr 1 0, .vec 2] :: .cells 89 [.map 3, .map 4, .map 5, .map 6] :: .vec false ⟨.call, b2⟩ :: oM b3 b4 b5 b6 [])) (fnEnds Tryz.prog Tryz.f31 (.ptr 1 0) (.cells 65 [.ptr 1 0, .vec 2] :: .cells 89 [.map 3, .map 4, .map 5, .map 6] :: .vec false ⟨.call, b2⟩ :: oM b3 b4 b5 b6 [])) := by
 refine Tr_tree (kok _ _ _ _ _ _) (E := E_call_Client_driver) (L := noLoops) 60 9999 LoopsOk.none (call_Client_driverR b2 b3 b4 b5 b6) (by kernel_rfl) (by kernel_rfl) (by kernel_rfl) ?_
 unfold call_Client_driverR
 refine ⟨fun h0 => ?_, fun h0 => ?_⟩
 · exact absurd h0 (by simp)
 · exact ⟨trivial, .inl (by kernel_rfl), by kernel_rfl⟩
noncomputable def call_Client_driver_fact : Fact Tryz.prog := factOf 31 Tryz.f31 (by kernel_rfl) rfl (by kernel_rfl) [.c (.ptr 0 0)] [.cells 65 [.ptr 1 0, .vec 2], .cells 89 [.map 3, .map 4, .map 5, .map 6], .vec false .call, .map .str (.int .i64), .vols, .map .str .sn, .map .tgt .done] true (fun t u => .ptr 1 0) (fun t u => HPL.enc _ u) (fun t u => [])
 (fun _ _ _ => rfl) (fun t u => by kernel_rfl) (fun t u => by kernel_rfl) (fun t u h => call_Client_driverF_tr u.2.2.1 u.2.2.2.1 u.2.2.2.2.1 u.2.2.2.2.2.1 u.2.2.2.2.2.2.1 )
noncomputable def E_call_Client_Room : Env := envOf (P := Tryz.prog) [call_Client_driver_fact, dD_Room_fact] [] [] ckf
def call_Client_RoomF (a1 : ByteArray) (b2 : List XCall) (b3 : List (ByteArray × Int)) (b4 : List (ByteArray × XVn)) (b5 : List (ByteArray × XSn)) (b6 : List (XTgt × XDone)) : Int × Bool :=
 (((dD_RoomF a1 b3 b4 b5 b6).1), (dD_RoomF a1 b3 b4 b5 b6).2)
def call_Client_RoomR (a1 : ByteArray) (b2 : List XCall) (b3 : List (ByteArray × Int)) (b4 : List (ByteArray × XVn)) (b5 : List (ByteArray × XSn)) (b6 : List (XTgt × XDone)) : RT :=
 (.leaf .ret ⟨slots 12 [(4, .int .i64 ((dD_RoomF a1 b3 b4 b5 b6).1)), (5, .bool ((dD_RoomF a1 b3 b4 b5 b6).2))], (.cells 65 [.ptr 1 0, .vec 2] :: .cells 89 [.map 3, .map 4, .map 5, .map 6] :: .vec false ⟨.call, b2⟩ :: oM b3 b4 b5 b6 [])⟩ [])
theorem call_Client_RoomF_tr (a1 : ByteArray) (b2 : List XCall) (b3 : List (ByteArray × Int)) (b4 : List (ByteArray × XVn)) (b5 : List (ByteArray × XSn)) (b6 : List (XTgt × XDone))  : Tr Tryz.prog 7 (bodyOf Tryz.f11) (fnBegins Tryz.f11 [.ptr 0 0, .str a1] (.cells 65 [.ptr 1 0, .vec 2] :: .cells 89 [.map 3, .map 4, .map 5, .map 6] :: .vec false ⟨.call, b2⟩ :: oM b3 b4 b5 b6 [])) (fnEnds Tryz.prog Tryz.f11 (.tup [.int .i64 ((call_Client_RoomF a1 b2 b3 b4 b5 b6).1), .bool ((call_Client_RoomF a1 b2 b3 b4 b5 b6).2)]) (.cells 65 [.ptr 1 0, .vec 2] :: .cells 89 [.map 3, .map 4, .map 5, .map 6] :: .vec false ⟨.call, b2⟩ :: oM b3 b4 b5 b6 [])) := by
 refine Tr_tree (kok _ _ _ _ _ _) (E := E_call_Client_Room) (L := noLoops) 60 9999 LoopsOk.none (call_Client_RoomR a1 b2 b3 b4 b5 b6) (by kernel_rfl) (by kernel_rfl) (by kernel_rfl) ?_
 unfold call_Client_RoomR
 exact ⟨trivial, .inl (by kernel_rfl), by kernel_rfl⟩
noncomputable def call_Client_Room_fact : Fact Tryz.prog := factOf 11 Tryz.f11 (by kernel_rfl) rfl (by kernel_rfl) [.c (.ptr 0 0), .c (.str)] [.cells 65 [.ptr 1 0, .vec 2], .cells 89 [.map 3, .map 4, .map 5, .map 6], .vec false .call, .map .str (.int .i64), .vols, .map .str .sn, .map .tgt .done] true (fun t u => .tup [.int .i64 ((call_Client_RoomF t.2.1 u.2.2.1 u.2.2.2.1 u.2.2.2.2.1 u.2.2.2.2.2.1 u.2.2.2.2.2.2.1).1), .bool ((call_Client_RoomF t.2.1 u.2.2.1 u.2.2.2.1 u.2.2.2.2.1 u.2.2.2.2.2.1 u.2.2.2.2.2.2.1).2)]) (fun t u => HPL.enc _ u) (fun t u => [])
 (fun _ _ _ => rfl) (fun t u => by kernel_rfl) (fun t u => by kernel_rfl) (fun t u h => call_Client_RoomF_tr t.2.1 u.2.2.1 u.2.2.2.1 u.2.2.2.2.1 u.2.2.2.2.2.1 u.2.2.2.2.2.2.1 )
noncomputable def E_call_Client_Volumes : Env := envOf (P := Tryz.prog) [call_Client_driver_fact, dD_Volumes_fact] [] [] ckf true
def call_Client_VolumesF (b2 : List XCall) (b3 : List (ByteArray × Int)) (b4 : List (ByteArray × XVn)) (b5 : List (ByteArray × XSn)) (b6 : List (XTgt × XDone)) : List XVol :=
 dD_VolumesF b3 b4 b5 b6
def call_Client_VolumesR (b2 : List XCall) (b3 : List (ByteArray × Int)) (b4 : List (ByteArray × XVn)) (b5 : List (ByteArray × XSn)) (b6 : List (XTgt × XDone)) : RT :=
 (.need [VB b4]
   (.leaf .ret ⟨slots 6 [(2, .coll ⟨.vol, dD_VolumesF b3 b4 b5 b6⟩)], (.cells 65 [.ptr 1 0, .vec 2] :: .cells 89 [.map 3, .map 4, .map 5, .map 6] :: .vec false ⟨.call, b2⟩ :: oM b3 b4 b5 b6 [])⟩ []))
theorem call_Client_VolumesF_tr (b2 : List XCall) (b3 : List (ByteArray × Int)) (b4 : List (ByteArray × XVn)) (b5 : List (ByteArray × XSn)) (b6 : List (XTgt × XDone)) (hp0 : VB b4) : Tr Tryz.prog 7 (bodyOf Tryz.f9) (fnBegins Tryz.f9 [.ptr 0 0] (.cells 65 [.ptr 1 0, .vec 2] :: .cells 89 [.map 3, .map 4, .map 5, .map 6] :: .vec false ⟨.call, b2⟩ :: oM b3 b4 b5 b6 [])) (fnEnds Tryz.prog Tryz.f9 (.coll ⟨.vol, call_Client_VolumesF b2 b3 b4 b5 b6⟩) (.cells 65 [.ptr 1 0, .vec 2] :: .cells 89 [.map 3, .map 4, .map 5, .map 6] :: .vec false ⟨.call, b2⟩ :: oM b3 b4 b5 b6 [])) := by
 refine Tr_tree (kok _ _ _ _ _ _) (E := E_call_Client_Volumes) (L := noLoops) 60 9999 LoopsOk.none (call_Client_VolumesR b2 b3 b4 b5 b6) (by kernel_rfl) (by kernel_rfl) (by kernel_rfl) ?_
 unfold call_Client_VolumesR
 refine ⟨need_cons (by (try refine fun (_ : _ = _) => ?_); (try refine fun (_ : _ ∧ _) => ?_); assumption) (need_nil), ?_⟩
 exact ⟨trivial, .inl (by kernel_rfl), by kernel_rfl⟩
noncomputable def call_Client_Volumes_fact : Fact Tryz.prog := factOf 9 Tryz.f9 (by kernel_rfl) rfl (by kernel_rfl) [.c (.ptr 0 0)] [.cells 65 [.ptr 1 0, .vec 2], .cells 89 [.map 3, .map 4, .map 5, .map 6], .vec false .call, .map .str (.int .i64), .vols, .map .str .sn, .map .tgt .done] true (fun t u => .coll ⟨.vol, call_Client_VolumesF u.2.2.1 u.2.2.2.1 u.2.2.2.2.1 u.2.2.2.2.2.1 u.2.2.2.2.2.2.1⟩) (fun t u => HPL.enc _ u) (fun t u => [VB u.2.2.2.2.1])
 (fun _ _ _ => rfl) (fun t u => by kernel_rfl) (fun t u => by kernel_rfl) (fun t u h => call_Client_VolumesF_tr u.2.2.1 u.2.2.2.1 u.2.2.2.2.1 u.2.2.2.2.2.1 u.2.2.2.2.2.2.1 (h _ List.mem_cons_self))
noncomputable def E_call_New : Env := envOf (P := Tryz.prog) [driver_NewA_fact] [] [] ckf true
def call_NewF (a0 : List XZone) : List XCall × (List (ByteArray × Int)) × (List (ByteArray × XVn)) × (List (ByteArray × XSn)) × (List (XTgt × XDone)) :=
 ([], (driver_NewF a0).2.1, (driver_NewF a0).2.2.1, (driver_NewF a0).2.2.2.1, (driver_NewF a0).2.2.2.2)
def call_NewR (a0 : List XZone) : RT :=
 (.need [a0.length < 4611686018427387904, ∀ z ∈ a0, z.name.size < 4611686018427387904, (driver_NewF a0).1 = true]
   (.ask true
     (.leaf .ret ⟨slots 12 [(2, .ptr 0 0)], (.cells 65 [.ptr 1 0, .nils] :: .cells 89 [.map 2, .map 3, .map 4, .map 5] :: oM ((driver_NewF a0).2.1) ((driver_NewF a0).2.2.1) ((driver_NewF a0).2.2.2.1) ((driver_NewF a0).2.2.2.2) [])⟩ [5, 0, 1, 2, 3, 4])
     .fail))
theorem call_NewF_tr (a0 : List XZone) (hp0 : a0.length < 4611686018427387904) (hp1 : ∀ z ∈ a0, z.name.size < 4611686018427387904) (hp2 : (driver_NewF a0).1 = true) : Tr Tryz.prog 0 (bodyOf Tryz.f5) (fnBegins Tryz.f5 [.coll ⟨.zone, a0⟩] []) (fnEnds Tryz.prog Tryz.f5 (.ptr 0 0) (.cells 65 [.ptr 1 0, .vec 2] :: .cells 89 [.map 3, .map 4, .map 5, .map 6] :: .vec false ⟨.call, (call_NewF a0).1⟩ :: oM ((call_NewF a0).2.1) ((call_NewF a0).2.2.1) ((call_NewF a0).2.2.2.1) ((call_NewF a0).2.2.2.2) [])) := by
 refine Tr.post ?_
 refine Tr_tree (kok _ _ _ _ _ _) (E := E_call_New) (L := noLoops) 60 9999 LoopsOk.none (call_NewR a0) (by kernel_rfl) (by kernel_rfl) (by kernel_rfl) ?_
 unfold call_NewR
 refine ⟨(by (iterate 3 refine need_cons (by (try refine fun (_ : _ = _) => ?_); (try refine fun (_ : _ ∧ _) => ?_); assumption) ?_); exact need_nil), ?_⟩
 refine ⟨fun h0 => ?_, fun h0 => ?_⟩
 · have hF : call_NewF a0 = ([], (driver_NewF a0).2.1, (driver_NewF a0).2.2.1, (driver_NewF a0).2.2.2.1, (driver_NewF a0).2.2.2.2) := by first | exact rfl | simp only [call_NewF, h0, cond_true, cond_false]
   exact ⟨_, (Turn.ownNil 0 1 6 .call rfl rfl (by simp [hset, oM, oV])).trans (Turn.fits (p := ⟨slots 12 [(2, .ptr 0 0)], (.cells 65 [.ptr 1 0, .vec 2] :: .cells 89 [.map 3, .map 4, .map 5, .map 6] :: .vec false ⟨.call, []⟩ :: oM ((driver_NewF a0).2.1) ((driver_NewF a0).2.2.1) ((driver_NewF a0).2.2.2.1) ((driver_NewF a0).2.2.2.2) [])⟩) [0, 1, 6, 2, 3, 4, 5] (by kernel_rfl) (by kernel_rfl) (by kernel_rfl) (by kernel_rfl)), trivial, .inl (by (try rw [hF]); kernel_rfl), by (try rw [hF]); kernel_rfl⟩
 · exact absurd h0 (by simp)
noncomputable def call_New_fact : Fact Tryz.prog := factOf 5 Tryz.f5 (by kernel_rfl) rfl (by kernel_rfl) [.c (.coll .zone)] [] false (fun t u => .ptr 0 0) (fun t u => (.cells 65 [.ptr 1 0, .vec 2] :: .cells 89 [.map 3, .map 4, .map 5, .map 6] :: .vec false ⟨.call, (call_NewF t.1).1⟩ :: oM ((call_NewF t.1).2.1) ((call_NewF t.1).2.2.1) ((call_NewF t.1).2.2.2.1) ((call_NewF t.1).2.2.2.2) [])) (fun t u => [t.1.length < 4611686018427387904, ∀ z ∈ t.1, z.name.size < 4611686018427387904, (driver_NewF t.1).1 = true])
 (nofun) (fun t u => by kernel_rfl) (fun t u => by kernel_rfl) (fun t u h => call_NewF_tr t.1 (h _ List.mem_cons_self) (h _ (List.mem_cons_of_mem _ List.mem_cons_self)) (h _ (List.mem_cons_of_mem _ (List.mem_cons_of_mem _ List.mem_cons_self))))
end Go.Proofs.YtkledlcmhbjadaaGreatDoor
