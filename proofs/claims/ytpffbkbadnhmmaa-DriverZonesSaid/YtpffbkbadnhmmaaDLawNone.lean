/- The law DriverNone. -/
import Derived.Test.YtpffbkbadnhmmaaDPLI
set_option linter.unusedVariables false
set_option linter.unusedSimpArgs false
set_option maxRecDepth 100000
namespace Go.Proofs.Ytpffbkbadnhmmaa
open Go Go.Eng
noncomputable def E_dD_Room_2 : Env := envOf (P := Try.prog) [] [] [] ckf
def dD_Room_2F (a1 : ByteArray) : Int × Bool :=
 ((0 : Int), false)
def dD_Room_2R (a1 : ByteArray) : RT :=
 (.ask true
   (.leaf .ret ⟨slots 21 [(4, .int .i64 0), (5, .bool false)], []⟩ [])
   .fail)
theorem dD_Room_2F_tr (a1 : ByteArray)  : Tr Try.prog 0 (bodyOf Try.f22) (fnBegins Try.f22 [.nilp, .str a1] []) (fnEnds Try.prog Try.f22 (.tup [.int .i64 ((dD_Room_2F a1).1), .bool ((dD_Room_2F a1).2)]) []) := by
 refine Tr_tree (kok _ _ _ _ _ _) (E := E_dD_Room_2) (L := noLoops) 60 9999 LoopsOk.none (dD_Room_2R a1) (by kernel_rfl) (by kernel_rfl) (by kernel_rfl) ?_
 unfold dD_Room_2R
 refine ⟨fun h0 => ?_, fun h0 => ?_⟩
 · have hF : dD_Room_2F a1 = ((0 : Int), false) := by first | exact rfl | simp only [dD_Room_2F, h0, cond_true, cond_false]
   exact ⟨trivial, .inl (by (try rw [hF]); kernel_rfl), by (try rw [hF]); kernel_rfl⟩
 · exact absurd h0 (by simp)
noncomputable def dD_Room_2_fact : Fact Try.prog := factOf 22 Try.f22 (by kernel_rfl) rfl (by kernel_rfl) [.c (.nilp), .c (.str)] [] true (fun t u => .tup [.int .i64 ((dD_Room_2F t.2.1).1), .bool ((dD_Room_2F t.2.1).2)]) (fun t u => []) (fun t u => [])
 (fun _ _ _ => rfl) (fun t u => by kernel_rfl) (fun t u => by kernel_rfl) (fun t u h => dD_Room_2F_tr t.2.1 )
noncomputable def E_dD_Do_2 : Env := envOf (P := Try.prog) [] [] [] ckf
def dD_Do_2F (a1 : XCall) : XRes :=
 (⟨(1 : Int), (0 : Int), (⟨#[]⟩ : ByteArray), (0 : Int)⟩ : XRes)
def dD_Do_2R (a1 : XCall) : RT :=
 (.ask true
   (.leaf .ret ⟨slots 95 [(4, .ptr 0 0)], [.cells 52 [.int .i64 1, .int .i64 0, .str (⟨#[]⟩ : ByteArray), .int .u64 0]]⟩ [1])
   .fail)
theorem dD_Do_2F_tr (a1 : XCall) (hp0 : CS a1) : Tr Try.prog 0 (bodyOf Try.f27) (fnBegins Try.f27 [.nilp, .agg (cc a1)] []) (fnEnds Try.prog Try.f27 (.agg [.int .i64 ((dD_Do_2F a1).err), .int .i64 ((dD_Do_2F a1).size), .str ((dD_Do_2F a1).zone), .int .u64 ((dD_Do_2F a1).tag)]) []) := by
 refine Tr_tree (kok _ _ _ _ _ _) (E := E_dD_Do_2) (L := noLoops) 60 9999 LoopsOk.none (dD_Do_2R a1) (by kernel_rfl) (by kernel_rfl) (by kernel_rfl) ?_
 unfold dD_Do_2R
 refine ⟨fun h0 => ?_, fun h0 => ?_⟩
 · have hF : dD_Do_2F a1 = (⟨(1 : Int), (0 : Int), (⟨#[]⟩ : ByteArray), (0 : Int)⟩ : XRes) := by first | exact rfl | simp only [dD_Do_2F, h0, cond_true, cond_false]
   exact ⟨trivial, .inl (by (try rw [hF]); kernel_rfl), by (try rw [hF]); kernel_rfl⟩
 · exact absurd h0 (by simp)
noncomputable def dD_Do_2_fact : Fact Try.prog := factOf 27 Try.f27 (by kernel_rfl) rfl (by kernel_rfl) [.c (.nilp), .st .call] [] true (fun t u => .agg [.int .i64 ((dD_Do_2F t.2.1).err), .int .i64 ((dD_Do_2F t.2.1).size), .str ((dD_Do_2F t.2.1).zone), .int .u64 ((dD_Do_2F t.2.1).tag)]) (fun t u => []) (fun t u => [CS t.2.1])
 (fun _ _ _ => rfl) (fun t u => by kernel_rfl) (fun t u => by kernel_rfl) (fun t u h => dD_Do_2F_tr t.2.1 (h _ List.mem_cons_self))
noncomputable def E_dD_Put_2 : Env := envOf (P := Try.prog) [] [] [] ckf
def dD_Put_2F (a1 : ByteArray) (a2 : ByteArray) (a3 : Int) : Int :=
 (1 : Int)
def dD_Put_2R (a1 : ByteArray) (a2 : ByteArray) (a3 : Int) : RT :=
 (.ask true
   (.leaf .ret ⟨slots 39 [(8, .int .i64 1)], []⟩ [])
   .fail)
theorem dD_Put_2F_tr (a1 : ByteArray) (a2 : ByteArray) (a3 : Int)  : Tr Try.prog 0 (bodyOf Try.f33) (fnBegins Try.f33 [.nilp, .str a1, .str a2, .int .u64 a3] []) (fnEnds Try.prog Try.f33 (.int .i64 (dD_Put_2F a1 a2 a3)) []) := by
 refine Tr_tree (kok _ _ _ _ _ _) (E := E_dD_Put_2) (L := noLoops) 60 9999 LoopsOk.none (dD_Put_2R a1 a2 a3) (by kernel_rfl) (by kernel_rfl) (by kernel_rfl) ?_
 unfold dD_Put_2R
 refine ⟨fun h0 => ?_, fun h0 => ?_⟩
 · have hF : dD_Put_2F a1 a2 a3 = (1 : Int) := by first | exact rfl | simp only [dD_Put_2F, h0, cond_true, cond_false]
   exact ⟨trivial, .inl (by (try rw [hF]); kernel_rfl), by (try rw [hF]); kernel_rfl⟩
 · exact absurd h0 (by simp)
noncomputable def dD_Put_2_fact : Fact Try.prog := factOf 33 Try.f33 (by kernel_rfl) rfl (by kernel_rfl) [.c (.nilp), .c (.str), .c (.str), .c (.int .u64)] [] true (fun t u => .int .i64 (dD_Put_2F t.2.1 t.2.2.1 t.2.2.2.1)) (fun t u => []) (fun t u => [])
 (fun _ _ _ => rfl) (fun t u => by kernel_rfl) (fun t u => by kernel_rfl) (fun t u h => dD_Put_2F_tr t.2.1 t.2.2.1 t.2.2.2.1 )
noncomputable def E_dD_Volumes_2 : Env := envOf (P := Try.prog) [] [] [] ckf true
def dD_Volumes_2F  : List XVol :=
 []
def dD_Volumes_2R  : RT :=
 (.ask true
   (.leaf .ret ⟨slots 41 [(2, .vec 0)], [.vec false ⟨.vol, []⟩]⟩ [1])
   .fail)
theorem dD_Volumes_2F_tr   : Tr Try.prog 0 (bodyOf Try.f23) (fnBegins Try.f23 [.nilp] []) (fnEnds Try.prog Try.f23 (.coll ⟨.vol, dD_Volumes_2F⟩) []) := by
 refine Tr.post ?_
 refine Tr_tree (kok _ _ _ _ _ _) (E := E_dD_Volumes_2) (L := noLoops) 60 9999 LoopsOk.none (dD_Volumes_2R ) (by kernel_rfl) (by kernel_rfl) (by kernel_rfl) ?_
 unfold dD_Volumes_2R
 refine ⟨fun h0 => ?_, fun h0 => ?_⟩
 · have hF : dD_Volumes_2F = [] := by first | exact rfl | simp only [dD_Volumes_2F, h0, cond_true, cond_false]
   exact ⟨_, Turn.frz 0 rfl, trivial, .inr (by (try rw [hF]); kernel_rfl), by (try rw [hF]); kernel_rfl⟩
 · exact absurd h0 (by simp)
noncomputable def dD_Volumes_2_fact : Fact Try.prog := factOf 23 Try.f23 (by kernel_rfl) rfl (by kernel_rfl) [.c (.nilp)] [] true (fun t u => .coll ⟨.vol, dD_Volumes_2F⟩) (fun t u => []) (fun t u => [])
 (fun _ _ _ => rfl) (fun t u => by kernel_rfl) (fun t u => by kernel_rfl) (fun t u h => dD_Volumes_2F_tr  )
noncomputable def E_dD_Snaps_2 : Env := envOf (P := Try.prog) [] [] [] ckf true
def dD_Snaps_2F  : List XSnap :=
 []
def dD_Snaps_2R  : RT :=
 (.ask true
   (.leaf .ret ⟨slots 25 [(2, .vec 0)], [.vec false ⟨.snap, []⟩]⟩ [1])
   .fail)
theorem dD_Snaps_2F_tr   : Tr Try.prog 0 (bodyOf Try.f24) (fnBegins Try.f24 [.nilp] []) (fnEnds Try.prog Try.f24 (.coll ⟨.snap, dD_Snaps_2F⟩) []) := by
 refine Tr.post ?_
 refine Tr_tree (kok _ _ _ _ _ _) (E := E_dD_Snaps_2) (L := noLoops) 60 9999 LoopsOk.none (dD_Snaps_2R ) (by kernel_rfl) (by kernel_rfl) (by kernel_rfl) ?_
 unfold dD_Snaps_2R
 refine ⟨fun h0 => ?_, fun h0 => ?_⟩
 · have hF : dD_Snaps_2F = [] := by first | exact rfl | simp only [dD_Snaps_2F, h0, cond_true, cond_false]
   exact ⟨_, Turn.frz 0 rfl, trivial, .inr (by (try rw [hF]); kernel_rfl), by (try rw [hF]); kernel_rfl⟩
 · exact absurd h0 (by simp)
noncomputable def dD_Snaps_2_fact : Fact Try.prog := factOf 24 Try.f24 (by kernel_rfl) rfl (by kernel_rfl) [.c (.nilp)] [] true (fun t u => .coll ⟨.snap, dD_Snaps_2F⟩) (fun t u => []) (fun t u => [])
 (fun _ _ _ => rfl) (fun t u => by kernel_rfl) (fun t u => by kernel_rfl) (fun t u h => dD_Snaps_2F_tr  )
noncomputable def E_dD_Seen_2 : Env := envOf (P := Try.prog) [] [] [] ckf
def dD_Seen_2F (a1 : Int) (a2 : ByteArray) : Int :=
 (0 : Int)
def dD_Seen_2R (a1 : Int) (a2 : ByteArray) : RT :=
 (.ask true
   (.leaf .ret ⟨slots 19 [(6, .int .u64 0)], []⟩ [])
   .fail)
theorem dD_Seen_2F_tr (a1 : Int) (a2 : ByteArray)  : Tr Try.prog 0 (bodyOf Try.f32) (fnBegins Try.f32 [.nilp, .int .u8 a1, .str a2] []) (fnEnds Try.prog Try.f32 (.int .u64 (dD_Seen_2F a1 a2)) []) := by
 refine Tr_tree (kok _ _ _ _ _ _) (E := E_dD_Seen_2) (L := noLoops) 60 9999 LoopsOk.none (dD_Seen_2R a1 a2) (by kernel_rfl) (by kernel_rfl) (by kernel_rfl) ?_
 unfold dD_Seen_2R
 refine ⟨fun h0 => ?_, fun h0 => ?_⟩
 · have hF : dD_Seen_2F a1 a2 = (0 : Int) := by first | exact rfl | simp only [dD_Seen_2F, h0, cond_true, cond_false]
   exact ⟨trivial, .inl (by (try rw [hF]); kernel_rfl), by (try rw [hF]); kernel_rfl⟩
 · exact absurd h0 (by simp)
noncomputable def dD_Seen_2_fact : Fact Try.prog := factOf 32 Try.f32 (by kernel_rfl) rfl (by kernel_rfl) [.c (.nilp), .c (.int .u8), .c (.str)] [] true (fun t u => .int .u64 (dD_Seen_2F t.2.1 t.2.2.1)) (fun t u => []) (fun t u => [])
 (fun _ _ _ => rfl) (fun t u => by kernel_rfl) (fun t u => by kernel_rfl) (fun t u h => dD_Seen_2F_tr t.2.1 t.2.2.1 )
noncomputable def E_dD_Fork : Env := envOf (P := Try.prog) [] [] [] ckf
def dD_ForkR  : RT :=
 (.ask true
   (.leaf .ret ⟨slots 51 [(2, .nilp)], []⟩ [])
   .fail)
theorem dD_ForkF_tr   : Tr Try.prog 0 (bodyOf Try.f34) (fnBegins Try.f34 [.nilp] []) (fnEnds Try.prog Try.f34 (.nilp) []) := by
 refine Tr_tree (kok _ _ _ _ _ _) (E := E_dD_Fork) (L := noLoops) 60 9999 LoopsOk.none (dD_ForkR ) (by kernel_rfl) (by kernel_rfl) (by kernel_rfl) ?_
 unfold dD_ForkR
 refine ⟨fun h0 => ?_, fun h0 => ?_⟩
 · exact ⟨trivial, .inl (by kernel_rfl), by kernel_rfl⟩
 · exact absurd h0 (by simp)
noncomputable def dD_Fork_fact : Fact Try.prog := factOf 34 Try.f34 (by kernel_rfl) rfl (by kernel_rfl) [.c (.nilp)] [] true (fun t u => .nilp) (fun t u => []) (fun t u => [])
 (fun _ _ _ => rfl) (fun t u => by kernel_rfl) (fun t u => by kernel_rfl) (fun t u h => dD_ForkF_tr  )
noncomputable def E_w10_DriverNone : Env := envOf (P := Try.prog) [dD_Room_2_fact, w10_live_fact, dD_Do_2_fact, dD_Put_2_fact, dD_Volumes_2_fact, dD_Snaps_2_fact, dD_Seen_2_fact, dD_Fork_fact] [] [] ckf true
def w10_DriverNoneF (a0 : XDeed) : Bool :=
 cond (cond (cond (cond (cond (cond (cond (cond w10_liveF ((((dD_Do_2F (⟨a0.c.verb, a0.c.target, a0.c.num, a0.c.size, a0.c.zone, a0.c.node, a0.c.source⟩ : XCall)).err) == (1 : Int)) && ((((dD_Do_2F (⟨a0.c.verb, a0.c.target, a0.c.num, a0.c.size, a0.c.zone, a0.c.node, a0.c.source⟩ : XCall)).size) == (0 : Int)) && ((decide (((dD_Do_2F (⟨a0.c.verb, a0.c.target, a0.c.num, a0.c.size, a0.c.zone, a0.c.node, a0.c.source⟩ : XCall)).zone) = (⟨#[]⟩ : ByteArray))) && (((dD_Do_2F (⟨a0.c.verb, a0.c.target, a0.c.num, a0.c.size, a0.c.zone, a0.c.node, a0.c.source⟩ : XCall)).tag) == (0 : Int))))) false) ((dD_Put_2F a0.c.target a0.c.node a0.tag) == (1 : Int)) false) ((dD_Volumes_2F.length : Int) == (0 : Int)) false) ((dD_Snaps_2F.length : Int) == (0 : Int)) false) (((dD_Room_2F a0.c.zone).1) == (0 : Int)) false) (!((dD_Room_2F a0.c.zone).2)) false) ((dD_Seen_2F a0.c.verb a0.c.target) == (0 : Int)) false) true false
def w10_DriverNoneR (a0 : XDeed) : RT :=
 (.need [(w10_liveF = true) → (CS (⟨a0.c.verb, a0.c.target, a0.c.num, a0.c.size, a0.c.zone, a0.c.node, a0.c.source⟩ : XCall))]
   (.leaf .ret ⟨slots 72 [(2, .bool (cond (cond (cond (cond (cond (cond (cond (cond w10_liveF ((((dD_Do_2F (⟨a0.c.verb, a0.c.target, a0.c.num, a0.c.size, a0.c.zone, a0.c.node, a0.c.source⟩ : XCall)).err) == (1 : Int)) && ((((dD_Do_2F (⟨a0.c.verb, a0.c.target, a0.c.num, a0.c.size, a0.c.zone, a0.c.node, a0.c.source⟩ : XCall)).size) == (0 : Int)) && ((decide (((dD_Do_2F (⟨a0.c.verb, a0.c.target, a0.c.num, a0.c.size, a0.c.zone, a0.c.node, a0.c.source⟩ : XCall)).zone) = (⟨#[]⟩ : ByteArray))) && (((dD_Do_2F (⟨a0.c.verb, a0.c.target, a0.c.num, a0.c.size, a0.c.zone, a0.c.node, a0.c.source⟩ : XCall)).tag) == (0 : Int))))) false) ((dD_Put_2F a0.c.target a0.c.node a0.tag) == (1 : Int)) false) ((dD_Volumes_2F.length : Int) == (0 : Int)) false) ((dD_Snaps_2F.length : Int) == (0 : Int)) false) (((dD_Room_2F a0.c.zone).1) == (0 : Int)) false) (!((dD_Room_2F a0.c.zone).2)) false) ((dD_Seen_2F a0.c.verb a0.c.target) == (0 : Int)) false) true false))], []⟩ []))
theorem w10_DriverNoneF_tr (a0 : XDeed) (hp0 : CS a0.c) : Tr Try.prog 0 (bodyOf Try.f12) (fnBegins Try.f12 [.agg [.int .u8 a0.c.verb, .str a0.c.target, .int .u64 a0.c.num, .int .i64 a0.c.size, .str a0.c.zone, .str a0.c.node, .str a0.c.source, .int .u64 a0.tag]] []) (fnEnds Try.prog Try.f12 (.bool (w10_DriverNoneF a0)) []) := by
 refine Tr_tree (kok _ _ _ _ _ _) (E := E_w10_DriverNone) (L := noLoops) 60 9999 LoopsOk.none (w10_DriverNoneR a0) (by kernel_rfl) (by kernel_rfl) (by kernel_rfl) ?_
 unfold w10_DriverNoneR
 refine ⟨need_cons (by (try refine fun (_ : _ = _) => ?_); (try refine fun (_ : _ ∧ _) => ?_); exact hp0) (need_nil), ?_⟩
 exact ⟨trivial, .inl (by kernel_rfl), by kernel_rfl⟩
end Go.Proofs.Ytpffbkbadnhmmaa
