/- The law CallNone. -/
import Derived.Test.YtpffbkbadnhmmaaDPLV
set_option linter.unusedVariables false
set_option linter.unusedSimpArgs false
set_option maxRecDepth 100000
namespace Go.Proofs.Ytpffbkbadnhmmaa
open Go Go.Eng
noncomputable def E_call_New_2 : Env := envOf (P := Try.prog) [Z159] [] [] ckf true
def call_New_2R (a0 : LZ) : RT :=
 (.need [a0.length < 4611686018427387904, ∀ z ∈ a0, z.name.size < 4611686018427387904, (Z1a a0).1 = false]
   (.ask false
     .fail
     (.leaf .ret ⟨slots 12 [(2, .nilp)], []⟩ [])))
theorem call_New_2F_tr (a0 : LZ) (hp0 : a0.length < 4611686018427387904) (hp1 : ∀ z ∈ a0, z.name.size < 4611686018427387904) (hp2 : (Z1a a0).1 = false) : Tr Try.prog 0 (bodyOf Try.f51) (fnBegins Try.f51 [.coll ⟨.zone, a0⟩] []) (fnEnds Try.prog Try.f51 (.nilp) []) := by
 refine Tr_tree (kok _ _ _ _ _ _) (E := E_call_New_2) (L := noLoops) 60 9999 Z11.none (call_New_2R a0) (by kernel_rfl) (by kernel_rfl) (by kernel_rfl) ?_
 unfold call_New_2R
 refine ⟨(by (iterate 3 refine Z5 (by (try refine fun (_ : _ = _) => ?_); (try refine fun (_ : _ ∧ _) => ?_); assumption) ?_); exact Z9), ?_⟩
 refine ⟨fun h0 => ?_, fun h0 => ?_⟩
 · exact absurd h0 (by simp)
 · exact ⟨trivial, .inl (by kernel_rfl), by kernel_rfl⟩
noncomputable def call_New_2_fact : Fact Try.prog := factOf 51 Try.f51 (by kernel_rfl) rfl (by kernel_rfl) [.c (.coll .zone)] [] true (fun t u => .nilp) (fun t u => []) (fun t u => [t.1.length < 4611686018427387904, ∀ z ∈ t.1, z.name.size < 4611686018427387904, (Z1a t.1).1 = false])
 (fun _ _ _ => rfl) (fun t u => by kernel_rfl) (fun t u => by kernel_rfl) (fun t u h => call_New_2F_tr t.1 (h _ mS) (h _ (mN mS)) (h _ (mN (mN mS))))
noncomputable def E_call_Client_driver_2 : Env := envOf (P := Try.prog) [] [] [] ckf
def Za1  : RT :=
 (.ask true
   (.leaf .ret ⟨slots 10 [(2, .nilp)], []⟩ [])
   .fail)
theorem Zcb   : Tr Try.prog 0 (bodyOf Try.f81) (fnBegins Try.f81 [.nilp] []) (fnEnds Try.prog Try.f81 (.nilp) []) := by
 refine Tr_tree (kok _ _ _ _ _ _) (E := E_call_Client_driver_2) (L := noLoops) 60 9999 Z11.none (Za1 ) (by kernel_rfl) (by kernel_rfl) (by kernel_rfl) ?_
 unfold Za1
 refine ⟨fun h0 => ?_, fun h0 => ?_⟩
 · exact ⟨trivial, .inl (by kernel_rfl), by kernel_rfl⟩
 · exact absurd h0 (by simp)
noncomputable def Z5a : Fact Try.prog := factOf 81 Try.f81 (by kernel_rfl) rfl (by kernel_rfl) [.c (.nilp)] [] true (fun t u => .nilp) (fun t u => []) (fun t u => [])
 (fun _ _ _ => rfl) (fun t u => by kernel_rfl) (fun t u => by kernel_rfl) (fun t u h => Zcb  )
noncomputable def E_dD_Room_3 : Env := envOf (P := Try.prog) [] [] [] ckf
def Z7f (a1 : BA) : Int × Bool :=
 ((0 : Int), false)
def dD_Room_3R (a1 : BA) : RT :=
 (.ask true
   (.leaf .ret ⟨slots 21 [(4, .int .i64 0), (5, .bool false)], []⟩ [])
   .fail)
theorem dD_Room_3F_tr (a1 : BA)  : Tr Try.prog 0 (bodyOf Try.f22) (fnBegins Try.f22 [.nilp, .str a1] []) (fnEnds Try.prog Try.f22 (.tup [.int .i64 ((Z7f a1).1), .bool ((Z7f a1).2)]) []) := by
 refine Tr_tree (kok _ _ _ _ _ _) (E := E_dD_Room_3) (L := noLoops) 60 9999 Z11.none (dD_Room_3R a1) (by kernel_rfl) (by kernel_rfl) (by kernel_rfl) ?_
 unfold dD_Room_3R
 refine ⟨fun h0 => ?_, fun h0 => ?_⟩
 · have hF : Z7f a1 = ((0 : Int), false) := by first | exact rfl | simp only [Z7f, h0, cond_true, cond_false]
   exact ⟨trivial, .inl (by (try rw [hF]); kernel_rfl), by (try rw [hF]); kernel_rfl⟩
 · exact absurd h0 (by simp)
noncomputable def dD_Room_3_fact : Fact Try.prog := factOf 22 Try.f22 (by kernel_rfl) rfl (by kernel_rfl) [.c (.nilp), .c (.str)] [] true (fun t u => .tup [.int .i64 ((Z7f t.2.1).1), .bool ((Z7f t.2.1).2)]) (fun t u => []) (fun t u => [])
 (fun _ _ _ => rfl) (fun t u => by kernel_rfl) (fun t u => by kernel_rfl) (fun t u h => dD_Room_3F_tr t.2.1 )
noncomputable def E_call_Client_Room_2 : Env := envOf (P := Try.prog) [Z5a, dD_Room_3_fact] [] [] ckf
def Z4b (a1 : BA) : Int × Bool :=
 (((Z7f a1).1), (Z7f a1).2)
def Zb2 (a1 : BA) : RT :=
 (.leaf .ret ⟨slots 12 [(4, .int .i64 ((Z7f a1).1)), (5, .bool ((Z7f a1).2))], []⟩ [])
theorem Zf6 (a1 : BA)  : Tr Try.prog 0 (bodyOf Try.f47) (fnBegins Try.f47 [.nilp, .str a1] []) (fnEnds Try.prog Try.f47 (.tup [.int .i64 ((Z4b a1).1), .bool ((Z4b a1).2)]) []) := by
 refine Tr_tree (kok _ _ _ _ _ _) (E := E_call_Client_Room_2) (L := noLoops) 60 9999 Z11.none (Zb2 a1) (by kernel_rfl) (by kernel_rfl) (by kernel_rfl) ?_
 unfold Zb2
 exact ⟨trivial, .inl (by kernel_rfl), by kernel_rfl⟩
noncomputable def Ze0 : Fact Try.prog := factOf 47 Try.f47 (by kernel_rfl) rfl (by kernel_rfl) [.c (.nilp), .c (.str)] [] true (fun t u => .tup [.int .i64 ((Z4b t.2.1).1), .bool ((Z4b t.2.1).2)]) (fun t u => []) (fun t u => [])
 (fun _ _ _ => rfl) (fun t u => by kernel_rfl) (fun t u => by kernel_rfl) (fun t u h => Zf6 t.2.1 )
noncomputable def E_call_Client_Send_2 : Env := envOf (P := Try.prog) [] [] [] ckf true
def Z26 (a1 : XCall) (a2 : Int) : XRes :=
 (⟨(1 : Int), (0 : Int), (⟨#[]⟩ : BA), (0 : Int)⟩ : XRes)
def Zb1 (a1 : XCall) (a2 : Int) : RT :=
 (.ask true
   (.leaf .ret ⟨slots 66 [(6, .ptr 0 0)], [.cells 52 [.int .i64 1, .int .i64 0, .str (⟨#[]⟩ : BA), .int .u64 0]]⟩ [1])
   .fail)
theorem Zf5 (a1 : XCall) (a2 : Int) (hp0 : CS a1) : Tr Try.prog 0 (bodyOf Try.f43) (fnBegins Try.f43 [.nilp, .agg (cc a1), .int .u8 a2] []) (fnEnds Try.prog Try.f43 (.agg [.int .i64 ((Z26 a1 a2).err), .int .i64 ((Z26 a1 a2).size), .str ((Z26 a1 a2).zone), .int .u64 ((Z26 a1 a2).tag)]) []) := by
 refine Tr_tree (kok _ _ _ _ _ _) (E := E_call_Client_Send_2) (L := noLoops) 60 9999 Z11.none (Zb1 a1 a2) (by kernel_rfl) (by kernel_rfl) (by kernel_rfl) ?_
 unfold Zb1
 refine ⟨fun h0 => ?_, fun h0 => ?_⟩
 · have hF : Z26 a1 a2 = (⟨(1 : Int), (0 : Int), (⟨#[]⟩ : BA), (0 : Int)⟩ : XRes) := by first | exact rfl | simp only [Z26, h0, cond_true, cond_false]
   exact ⟨trivial, .inl (by (try rw [hF]); kernel_rfl), by (try rw [hF]); kernel_rfl⟩
 · exact absurd h0 (by simp)
noncomputable def Zdf : Fact Try.prog := factOf 43 Try.f43 (by kernel_rfl) rfl (by kernel_rfl) [.c (.nilp), .st .call, .c (.int .u8)] [] true (fun t u => .agg [.int .i64 ((Z26 t.2.1 t.2.2.1).err), .int .i64 ((Z26 t.2.1 t.2.2.1).size), .str ((Z26 t.2.1 t.2.2.1).zone), .int .u64 ((Z26 t.2.1 t.2.2.1).tag)]) (fun t u => []) (fun t u => [CS t.2.1])
 (fun _ _ _ => rfl) (fun t u => by kernel_rfl) (fun t u => by kernel_rfl) (fun t u h => Zf5 t.2.1 t.2.2.1 (h _ mS))
noncomputable def E_call_Client_Again_2 : Env := envOf (P := Try.prog) [] [] [] ckf true
def Z55 (a1 : Int) : Int :=
 (1 : Int)
def Za8 (a1 : Int) : RT :=
 (.ask true
   (.leaf .ret ⟨slots 35 [(4, .int .i64 1)], []⟩ [])
   .fail)
theorem Ze3 (a1 : Int)  : Tr Try.prog 0 (bodyOf Try.f41) (fnBegins Try.f41 [.nilp, .int .i64 a1] []) (fnEnds Try.prog Try.f41 (.int .i64 (Z55 a1)) []) := by
 refine Tr_tree (kok _ _ _ _ _ _) (E := E_call_Client_Again_2) (L := noLoops) 60 9999 Z11.none (Za8 a1) (by kernel_rfl) (by kernel_rfl) (by kernel_rfl) ?_
 unfold Za8
 refine ⟨fun h0 => ?_, fun h0 => ?_⟩
 · have hF : Z55 a1 = (1 : Int) := by first | exact rfl | simp only [Z55, h0, cond_true, cond_false]
   exact ⟨trivial, .inl (by (try rw [hF]); kernel_rfl), by (try rw [hF]); kernel_rfl⟩
 · exact absurd h0 (by simp)
noncomputable def Zd1 : Fact Try.prog := factOf 41 Try.f41 (by kernel_rfl) rfl (by kernel_rfl) [.c (.nilp), .c (.int .i64)] [] true (fun t u => .int .i64 (Z55 t.2.1)) (fun t u => []) (fun t u => [])
 (fun _ _ _ => rfl) (fun t u => by kernel_rfl) (fun t u => by kernel_rfl) (fun t u h => Ze3 t.2.1 )
noncomputable def E_dD_Put_3 : Env := envOf (P := Try.prog) [] [] [] ckf
def Zc9 (a1 : BA) (a2 : BA) (a3 : Int) : Int :=
 (1 : Int)
def dD_Put_3R (a1 : BA) (a2 : BA) (a3 : Int) : RT :=
 (.ask true
   (.leaf .ret ⟨slots 39 [(8, .int .i64 1)], []⟩ [])
   .fail)
theorem dD_Put_3F_tr (a1 : BA) (a2 : BA) (a3 : Int)  : Tr Try.prog 0 (bodyOf Try.f33) (fnBegins Try.f33 [.nilp, .str a1, .str a2, .int .u64 a3] []) (fnEnds Try.prog Try.f33 (.int .i64 (Zc9 a1 a2 a3)) []) := by
 refine Tr_tree (kok _ _ _ _ _ _) (E := E_dD_Put_3) (L := noLoops) 60 9999 Z11.none (dD_Put_3R a1 a2 a3) (by kernel_rfl) (by kernel_rfl) (by kernel_rfl) ?_
 unfold dD_Put_3R
 refine ⟨fun h0 => ?_, fun h0 => ?_⟩
 · have hF : Zc9 a1 a2 a3 = (1 : Int) := by first | exact rfl | simp only [Zc9, h0, cond_true, cond_false]
   exact ⟨trivial, .inl (by (try rw [hF]); kernel_rfl), by (try rw [hF]); kernel_rfl⟩
 · exact absurd h0 (by simp)
noncomputable def dD_Put_3_fact : Fact Try.prog := factOf 33 Try.f33 (by kernel_rfl) rfl (by kernel_rfl) [.c (.nilp), .c (.str), .c (.str), .c (.int .u64)] [] true (fun t u => .int .i64 (Zc9 t.2.1 t.2.2.1 t.2.2.2.1)) (fun t u => []) (fun t u => [])
 (fun _ _ _ => rfl) (fun t u => by kernel_rfl) (fun t u => by kernel_rfl) (fun t u h => dD_Put_3F_tr t.2.1 t.2.2.1 t.2.2.2.1 )
noncomputable def E_call_Client_Put_2 : Env := envOf (P := Try.prog) [Z5a, dD_Put_3_fact] [] [] ckf
def Z80 (a1 : BA) (a2 : BA) (a3 : Int) : Int :=
 (Zc9 a1 a2 a3)
def Zba (a1 : BA) (a2 : BA) (a3 : Int) : RT :=
 (.leaf .ret ⟨slots 15 [(8, .int .i64 (Zc9 a1 a2 a3))], []⟩ [])
theorem Z10b (a1 : BA) (a2 : BA) (a3 : Int)  : Tr Try.prog 0 (bodyOf Try.f48) (fnBegins Try.f48 [.nilp, .str a1, .str a2, .int .u64 a3] []) (fnEnds Try.prog Try.f48 (.int .i64 (Z80 a1 a2 a3)) []) := by
 refine Tr_tree (kok _ _ _ _ _ _) (E := E_call_Client_Put_2) (L := noLoops) 60 9999 Z11.none (Zba a1 a2 a3) (by kernel_rfl) (by kernel_rfl) (by kernel_rfl) ?_
 unfold Zba
 exact ⟨trivial, .inl (by kernel_rfl), by kernel_rfl⟩
noncomputable def Zf7 : Fact Try.prog := factOf 48 Try.f48 (by kernel_rfl) rfl (by kernel_rfl) [.c (.nilp), .c (.str), .c (.str), .c (.int .u64)] [] true (fun t u => .int .i64 (Z80 t.2.1 t.2.2.1 t.2.2.2.1)) (fun t u => []) (fun t u => [])
 (fun _ _ _ => rfl) (fun t u => by kernel_rfl) (fun t u => by kernel_rfl) (fun t u h => Z10b t.2.1 t.2.2.1 t.2.2.2.1 )
noncomputable def E_call_Client_Sent_2 : Env := envOf (P := Try.prog) [] [] [] ckf true
def Z58  : LK :=
 []
def Zb0  : RT :=
 (.ask true
   (.leaf .ret ⟨slots 11 [(2, .vec 0)], [.vec false ⟨.call, []⟩]⟩ [1])
   .fail)
theorem Zf3   : Tr Try.prog 0 (bodyOf Try.f40) (fnBegins Try.f40 [.nilp] []) (fnEnds Try.prog Try.f40 (.coll ⟨.call, Z58⟩) []) := by
 refine Tr.post ?_
 refine Tr_tree (kok _ _ _ _ _ _) (E := E_call_Client_Sent_2) (L := noLoops) 60 9999 Z11.none (Zb0 ) (by kernel_rfl) (by kernel_rfl) (by kernel_rfl) ?_
 unfold Zb0
 refine ⟨fun h0 => ?_, fun h0 => ?_⟩
 · have hF : Z58 = [] := by first | exact rfl | simp only [Z58, h0, cond_true, cond_false]
   exact ⟨_, Turn.frz 0 rfl, trivial, .inr (by (try rw [hF]); kernel_rfl), by (try rw [hF]); kernel_rfl⟩
 · exact absurd h0 (by simp)
noncomputable def Zde : Fact Try.prog := factOf 40 Try.f40 (by kernel_rfl) rfl (by kernel_rfl) [.c (.nilp)] [] true (fun t u => .coll ⟨.call, Z58⟩) (fun t u => []) (fun t u => [])
 (fun _ _ _ => rfl) (fun t u => by kernel_rfl) (fun t u => by kernel_rfl) (fun t u h => Zf3  )
noncomputable def E_dD_Volumes_3 : Env := envOf (P := Try.prog) [] [] [] ckf true
def Z86  : LV :=
 []
def Z13e  : RT :=
 (.ask true
   (.leaf .ret ⟨slots 41 [(2, .vec 0)], [.vec false ⟨.vol, []⟩]⟩ [1])
   .fail)
theorem Z15d   : Tr Try.prog 0 (bodyOf Try.f23) (fnBegins Try.f23 [.nilp] []) (fnEnds Try.prog Try.f23 (.coll ⟨.vol, Z86⟩) []) := by
 refine Tr.post ?_
 refine Tr_tree (kok _ _ _ _ _ _) (E := E_dD_Volumes_3) (L := noLoops) 60 9999 Z11.none (Z13e ) (by kernel_rfl) (by kernel_rfl) (by kernel_rfl) ?_
 unfold Z13e
 refine ⟨fun h0 => ?_, fun h0 => ?_⟩
 · have hF : Z86 = [] := by first | exact rfl | simp only [Z86, h0, cond_true, cond_false]
   exact ⟨_, Turn.frz 0 rfl, trivial, .inr (by (try rw [hF]); kernel_rfl), by (try rw [hF]); kernel_rfl⟩
 · exact absurd h0 (by simp)
noncomputable def Z14b : Fact Try.prog := factOf 23 Try.f23 (by kernel_rfl) rfl (by kernel_rfl) [.c (.nilp)] [] true (fun t u => .coll ⟨.vol, Z86⟩) (fun t u => []) (fun t u => [])
 (fun _ _ _ => rfl) (fun t u => by kernel_rfl) (fun t u => by kernel_rfl) (fun t u h => Z15d  )
noncomputable def E_call_Client_Volumes_2 : Env := envOf (P := Try.prog) [Z5a, Z14b] [] [] ckf true
def Z65  : LV :=
 Z86
def Z97  : RT :=
 (.leaf .ret ⟨slots 6 [(2, .coll ⟨.vol, Z86⟩)], []⟩ [])
theorem Zc0   : Tr Try.prog 0 (bodyOf Try.f49) (fnBegins Try.f49 [.nilp] []) (fnEnds Try.prog Try.f49 (.coll ⟨.vol, Z65⟩) []) := by
 refine Tr_tree (kok _ _ _ _ _ _) (E := E_call_Client_Volumes_2) (L := noLoops) 60 9999 Z11.none (Z97 ) (by kernel_rfl) (by kernel_rfl) (by kernel_rfl) ?_
 unfold Z97
 exact ⟨trivial, .inl (by kernel_rfl), by kernel_rfl⟩
noncomputable def Zb4 : Fact Try.prog := factOf 49 Try.f49 (by kernel_rfl) rfl (by kernel_rfl) [.c (.nilp)] [] true (fun t u => .coll ⟨.vol, Z65⟩) (fun t u => []) (fun t u => [])
 (fun _ _ _ => rfl) (fun t u => by kernel_rfl) (fun t u => by kernel_rfl) (fun t u h => Zc0  )
noncomputable def E_dD_Snaps_3 : Env := envOf (P := Try.prog) [] [] [] ckf true
def Z9c  : LS :=
 []
def dD_Snaps_3R  : RT :=
 (.ask true
   (.leaf .ret ⟨slots 25 [(2, .vec 0)], [.vec false ⟨.snap, []⟩]⟩ [1])
   .fail)
theorem dD_Snaps_3F_tr   : Tr Try.prog 0 (bodyOf Try.f24) (fnBegins Try.f24 [.nilp] []) (fnEnds Try.prog Try.f24 (.coll ⟨.snap, Z9c⟩) []) := by
 refine Tr.post ?_
 refine Tr_tree (kok _ _ _ _ _ _) (E := E_dD_Snaps_3) (L := noLoops) 60 9999 Z11.none (dD_Snaps_3R ) (by kernel_rfl) (by kernel_rfl) (by kernel_rfl) ?_
 unfold dD_Snaps_3R
 refine ⟨fun h0 => ?_, fun h0 => ?_⟩
 · have hF : Z9c = [] := by first | exact rfl | simp only [Z9c, h0, cond_true, cond_false]
   exact ⟨_, Turn.frz 0 rfl, trivial, .inr (by (try rw [hF]); kernel_rfl), by (try rw [hF]); kernel_rfl⟩
 · exact absurd h0 (by simp)
noncomputable def dD_Snaps_3_fact : Fact Try.prog := factOf 24 Try.f24 (by kernel_rfl) rfl (by kernel_rfl) [.c (.nilp)] [] true (fun t u => .coll ⟨.snap, Z9c⟩) (fun t u => []) (fun t u => [])
 (fun _ _ _ => rfl) (fun t u => by kernel_rfl) (fun t u => by kernel_rfl) (fun t u h => dD_Snaps_3F_tr  )
noncomputable def E_call_Client_Snaps_2 : Env := envOf (P := Try.prog) [Z5a, dD_Snaps_3_fact] [] [] ckf true
def Z73  : LS :=
 Z9c
def Za7  : RT :=
 (.leaf .ret ⟨slots 6 [(2, .coll ⟨.snap, Z9c⟩)], []⟩ [])
theorem Zdd   : Tr Try.prog 0 (bodyOf Try.f50) (fnBegins Try.f50 [.nilp] []) (fnEnds Try.prog Try.f50 (.coll ⟨.snap, Z73⟩) []) := by
 refine Tr_tree (kok _ _ _ _ _ _) (E := E_call_Client_Snaps_2) (L := noLoops) 60 9999 Z11.none (Za7 ) (by kernel_rfl) (by kernel_rfl) (by kernel_rfl) ?_
 unfold Za7
 exact ⟨trivial, .inl (by kernel_rfl), by kernel_rfl⟩
noncomputable def Zcc : Fact Try.prog := factOf 50 Try.f50 (by kernel_rfl) rfl (by kernel_rfl) [.c (.nilp)] [] true (fun t u => .coll ⟨.snap, Z73⟩) (fun t u => []) (fun t u => [])
 (fun _ _ _ => rfl) (fun t u => by kernel_rfl) (fun t u => by kernel_rfl) (fun t u h => Zdd  )
noncomputable def E_call_Client_Fork_2 : Env := envOf (P := Try.prog) [] [] [] ckf true
def Zb3  : RT :=
 (.ask true
   (.leaf .ret ⟨slots 20 [(2, .nilp)], []⟩ [])
   .fail)
theorem Zf9   : Tr Try.prog 0 (bodyOf Try.f45) (fnBegins Try.f45 [.nilp] []) (fnEnds Try.prog Try.f45 (.nilp) []) := by
 refine Tr_tree (kok _ _ _ _ _ _) (E := E_call_Client_Fork_2) (L := noLoops) 60 9999 Z11.none (Zb3 ) (by kernel_rfl) (by kernel_rfl) (by kernel_rfl) ?_
 unfold Zb3
 refine ⟨fun h0 => ?_, fun h0 => ?_⟩
 · exact ⟨trivial, .inl (by kernel_rfl), by kernel_rfl⟩
 · exact absurd h0 (by simp)
noncomputable def Ze1 : Fact Try.prog := factOf 45 Try.f45 (by kernel_rfl) rfl (by kernel_rfl) [.c (.nilp)] [] true (fun t u => .nilp) (fun t u => []) (fun t u => [])
 (fun _ _ _ => rfl) (fun t u => by kernel_rfl) (fun t u => by kernel_rfl) (fun t u h => Zf9  )
noncomputable def E_w11_CallNone : Env := envOf (P := Try.prog) [Ze0, Z8f, Zdf, Zd1, Zf7, Zde, Zb4, Zcc, Ze1, call_New_2_fact] [] [] ckf true
def Zd2 (a0 : XDeed2) : Bool :=
 cond (cond (cond (cond (cond (cond (cond (cond (cond (cond Z5e ((((Z26 (⟨a0.c.verb, a0.c.target, a0.c.num, a0.c.size, a0.c.zone, a0.c.node, a0.c.source⟩ : XCall) a0.o).err) == (1 : Int)) && ((((Z26 (⟨a0.c.verb, a0.c.target, a0.c.num, a0.c.size, a0.c.zone, a0.c.node, a0.c.source⟩ : XCall) a0.o).size) == (0 : Int)) && ((decide (((Z26 (⟨a0.c.verb, a0.c.target, a0.c.num, a0.c.size, a0.c.zone, a0.c.node, a0.c.source⟩ : XCall) a0.o).zone) = (⟨#[]⟩ : BA))) && (((Z26 (⟨a0.c.verb, a0.c.target, a0.c.num, a0.c.size, a0.c.zone, a0.c.node, a0.c.source⟩ : XCall) a0.o).tag) == (0 : Int))))) false) ((Z55 a0.i) == (1 : Int)) false) ((Z80 a0.c.target a0.c.node a0.tag) == (1 : Int)) false) ((Z58.length : Int) == (0 : Int)) false) ((Z65.length : Int) == (0 : Int)) false) ((Z73.length : Int) == (0 : Int)) false) (((Z4b (⟨#[97]⟩ : BA)).1) == (0 : Int)) false) (!((Z4b (⟨#[97]⟩ : BA)).2)) false) true false) true false
abbrev kCn0 (a0 : XDeed2) := (cond (cond (cond (cond (cond (cond (cond (cond (cond Z5e ((((Z26 (⟨a0.c.verb, a0.c.target, a0.c.num, a0.c.size, a0.c.zone, a0.c.node, a0.c.source⟩ : XCall) a0.o).err) == (1 : Int)) && ((((Z26 (⟨a0.c.verb, a0.c.target, a0.c.num, a0.c.size, a0.c.zone, a0.c.node, a0.c.source⟩ : XCall) a0.o).size) == (0 : Int)) && ((decide (((Z26 (⟨a0.c.verb, a0.c.target, a0.c.num, a0.c.size, a0.c.zone, a0.c.node, a0.c.source⟩ : XCall) a0.o).zone) = (⟨#[]⟩ : BA))) && (((Z26 (⟨a0.c.verb, a0.c.target, a0.c.num, a0.c.size, a0.c.zone, a0.c.node, a0.c.source⟩ : XCall) a0.o).tag) == (0 : Int))))) false) ((Z55 a0.i) == (1 : Int)) false) ((Z80 a0.c.target a0.c.node a0.tag) == (1 : Int)) false) ((Z58.length : Int) == (0 : Int)) false) ((Z65.length : Int) == (0 : Int)) false) ((Z73.length : Int) == (0 : Int)) false) (((Z4b (⟨#[97]⟩ : BA)).1) == (0 : Int)) false) (!((Z4b (⟨#[97]⟩ : BA)).2)) false) true false)
def Z130 (a0 : XDeed2) : RT :=
 (.need [(Z5e = true) → (CS (⟨a0.c.verb, a0.c.target, a0.c.num, a0.c.size, a0.c.zone, a0.c.node, a0.c.source⟩ : XCall))]
   (.need [((kCn0 a0) = true) → (([] : LZ).length < 4611686018427387904), ((kCn0 a0) = true) → (∀ z ∈ ([] : LZ), z.name.size < 4611686018427387904), ((kCn0 a0) = true) → ((Z1a ([] : LZ)).1 = false)]
     (.leaf .ret ⟨slots 77 [(2, .bool (cond (kCn0 a0) true false))], []⟩ [])))
theorem Z153 (a0 : XDeed2) (hp0 : D2 a0) : Tr Try.prog 0 (bodyOf Try.f17) (fnBegins Try.f17 [.agg [.int .u8 a0.c.verb, .str a0.c.target, .int .u64 a0.c.num, .int .i64 a0.c.size, .str a0.c.zone, .str a0.c.node, .str a0.c.source, .int .u8 a0.o, .int .u64 a0.tag, .bool a0.again, .int .i64 a0.i]] []) (fnEnds Try.prog Try.f17 (.bool (Zd2 a0)) []) := by
 refine Tr_tree (kok _ _ _ _ _ _) (E := E_w11_CallNone) (L := noLoops) 60 9999 Z11.none (Z130 a0) (by kernel_rfl) (by kernel_rfl) (by kernel_rfl) ?_
 unfold Z130
 refine ⟨Z5 (by (try refine fun (_ : _ = _) => ?_); (try refine fun (_ : _ ∧ _) => ?_); exact hp0.1) (Z9), ?_⟩
 refine ⟨Z5 (by (try refine fun (_ : _ = _) => ?_); (try refine fun (_ : _ ∧ _) => ?_); decide) (Z5 (by (try refine fun (_ : _ = _) => ?_); (try refine fun (_ : _ ∧ _) => ?_); exact nofun) (Z5 (by (try refine fun (_ : _ = _) => ?_); (try refine fun (_ : _ ∧ _) => ?_); rfl) (Z9))), ?_⟩
 exact ⟨trivial, .inl (by kernel_rfl), by kernel_rfl⟩
end Go.Proofs.Ytpffbkbadnhmmaa
