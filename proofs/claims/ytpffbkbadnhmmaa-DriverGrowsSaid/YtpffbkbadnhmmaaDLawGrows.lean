/- The law DriverGrows. -/
import Derived.Test.YtpffbkbadnhmmaaDPLI
set_option linter.unusedVariables false
set_option linter.unusedSimpArgs false
set_option maxRecDepth 100000
namespace Go.Proofs.Ytpffbkbadnhmmaa
open Go Go.Eng
noncomputable def E_w10_DriverGrows : Env := envOf (P := Try.prog) [w10_play_fact, w10_live_fact, dD_Volumes_fact, dD_Do_fact, w10_find_fact] [] [] ckf true
def w10_DriverGrowsLF (a0_0 : Int) (a0_1 : Int) (a0_2 : Int) (a1 : List XDeed) (a2 : XCall) : List XVol → Bool
 | [] => false
 | o :: r => cond (!((w10_findF (dD_VolumesF ((dD_DoF a2 ((w10_playF a0_0 a0_1 a0_2 a1).2.1) ((w10_playF a0_0 a0_1 a0_2 a1).2.2.1) ((w10_playF a0_0 a0_1 a0_2 a1).2.2.2.1) ((w10_playF a0_0 a0_1 a0_2 a1).2.2.2.2.1)).2.1) ((dD_DoF a2 ((w10_playF a0_0 a0_1 a0_2 a1).2.1) ((w10_playF a0_0 a0_1 a0_2 a1).2.2.1) ((w10_playF a0_0 a0_1 a0_2 a1).2.2.2.1) ((w10_playF a0_0 a0_1 a0_2 a1).2.2.2.2.1)).2.2.1) ((dD_DoF a2 ((w10_playF a0_0 a0_1 a0_2 a1).2.1) ((w10_playF a0_0 a0_1 a0_2 a1).2.2.1) ((w10_playF a0_0 a0_1 a0_2 a1).2.2.2.1) ((w10_playF a0_0 a0_1 a0_2 a1).2.2.2.2.1)).2.2.2.1) ((dD_DoF a2 ((w10_playF a0_0 a0_1 a0_2 a1).2.1) ((w10_playF a0_0 a0_1 a0_2 a1).2.2.1) ((w10_playF a0_0 a0_1 a0_2 a1).2.2.2.1) ((w10_playF a0_0 a0_1 a0_2 a1).2.2.2.2.1)).2.2.2.2)) (o.name)).2))
  (cond (cond (cond (cond (!(a2.verb == (2 : Int))) true (!(decide (a2.target = (o.name))))) true (!((((dD_DoF a2 ((w10_playF a0_0 a0_1 a0_2 a1).2.1) ((w10_playF a0_0 a0_1 a0_2 a1).2.2.1) ((w10_playF a0_0 a0_1 a0_2 a1).2.2.2.1) ((w10_playF a0_0 a0_1 a0_2 a1).2.2.2.2.1)).1).err) == (0 : Int)))) true (decide (((o.nodes).length : Int) > (0 : Int))))
    true
    (w10_DriverGrowsLF a0_0 a0_1 a0_2 a1 a2 r))
  (cond (cond (cond (cond (decide ((((w10_findF (dD_VolumesF ((dD_DoF a2 ((w10_playF a0_0 a0_1 a0_2 a1).2.1) ((w10_playF a0_0 a0_1 a0_2 a1).2.2.1) ((w10_playF a0_0 a0_1 a0_2 a1).2.2.2.1) ((w10_playF a0_0 a0_1 a0_2 a1).2.2.2.2.1)).2.1) ((dD_DoF a2 ((w10_playF a0_0 a0_1 a0_2 a1).2.1) ((w10_playF a0_0 a0_1 a0_2 a1).2.2.1) ((w10_playF a0_0 a0_1 a0_2 a1).2.2.2.1) ((w10_playF a0_0 a0_1 a0_2 a1).2.2.2.2.1)).2.2.1) ((dD_DoF a2 ((w10_playF a0_0 a0_1 a0_2 a1).2.1) ((w10_playF a0_0 a0_1 a0_2 a1).2.2.1) ((w10_playF a0_0 a0_1 a0_2 a1).2.2.2.1) ((w10_playF a0_0 a0_1 a0_2 a1).2.2.2.2.1)).2.2.2.1) ((dD_DoF a2 ((w10_playF a0_0 a0_1 a0_2 a1).2.1) ((w10_playF a0_0 a0_1 a0_2 a1).2.2.1) ((w10_playF a0_0 a0_1 a0_2 a1).2.2.2.1) ((w10_playF a0_0 a0_1 a0_2 a1).2.2.2.2.1)).2.2.2.2)) (o.name)).1).size) < (o.size))) true (!(decide ((((w10_findF (dD_VolumesF ((dD_DoF a2 ((w10_playF a0_0 a0_1 a0_2 a1).2.1) ((w10_playF a0_0 a0_1 a0_2 a1).2.2.1) ((w10_playF a0_0 a0_1 a0_2 a1).2.2.2.1) ((w10_playF a0_0 a0_1 a0_2 a1).2.2.2.2.1)).2.1) ((dD_DoF a2 ((w10_playF a0_0 a0_1 a0_2 a1).2.1) ((w10_playF a0_0 a0_1 a0_2 a1).2.2.1) ((w10_playF a0_0 a0_1 a0_2 a1).2.2.2.1) ((w10_playF a0_0 a0_1 a0_2 a1).2.2.2.2.1)).2.2.1) ((dD_DoF a2 ((w10_playF a0_0 a0_1 a0_2 a1).2.1) ((w10_playF a0_0 a0_1 a0_2 a1).2.2.1) ((w10_playF a0_0 a0_1 a0_2 a1).2.2.2.1) ((w10_playF a0_0 a0_1 a0_2 a1).2.2.2.2.1)).2.2.2.1) ((dD_DoF a2 ((w10_playF a0_0 a0_1 a0_2 a1).2.1) ((w10_playF a0_0 a0_1 a0_2 a1).2.2.1) ((w10_playF a0_0 a0_1 a0_2 a1).2.2.2.1) ((w10_playF a0_0 a0_1 a0_2 a1).2.2.2.2.1)).2.2.2.2)) (o.name)).1).zone) = (o.zone))))) true (!((((w10_findF (dD_VolumesF ((dD_DoF a2 ((w10_playF a0_0 a0_1 a0_2 a1).2.1) ((w10_playF a0_0 a0_1 a0_2 a1).2.2.1) ((w10_playF a0_0 a0_1 a0_2 a1).2.2.2.1) ((w10_playF a0_0 a0_1 a0_2 a1).2.2.2.2.1)).2.1) ((dD_DoF a2 ((w10_playF a0_0 a0_1 a0_2 a1).2.1) ((w10_playF a0_0 a0_1 a0_2 a1).2.2.1) ((w10_playF a0_0 a0_1 a0_2 a1).2.2.2.1) ((w10_playF a0_0 a0_1 a0_2 a1).2.2.2.2.1)).2.2.1) ((dD_DoF a2 ((w10_playF a0_0 a0_1 a0_2 a1).2.1) ((w10_playF a0_0 a0_1 a0_2 a1).2.2.1) ((w10_playF a0_0 a0_1 a0_2 a1).2.2.2.1) ((w10_playF a0_0 a0_1 a0_2 a1).2.2.2.2.1)).2.2.2.1) ((dD_DoF a2 ((w10_playF a0_0 a0_1 a0_2 a1).2.1) ((w10_playF a0_0 a0_1 a0_2 a1).2.2.1) ((w10_playF a0_0 a0_1 a0_2 a1).2.2.2.1) ((w10_playF a0_0 a0_1 a0_2 a1).2.2.2.2.1)).2.2.2.2)) (o.name)).1).tag) == (o.tag)))) true (cond (decide ((((w10_findF (dD_VolumesF ((dD_DoF a2 ((w10_playF a0_0 a0_1 a0_2 a1).2.1) ((w10_playF a0_0 a0_1 a0_2 a1).2.2.1) ((w10_playF a0_0 a0_1 a0_2 a1).2.2.2.1) ((w10_playF a0_0 a0_1 a0_2 a1).2.2.2.2.1)).2.1) ((dD_DoF a2 ((w10_playF a0_0 a0_1 a0_2 a1).2.1) ((w10_playF a0_0 a0_1 a0_2 a1).2.2.1) ((w10_playF a0_0 a0_1 a0_2 a1).2.2.2.1) ((w10_playF a0_0 a0_1 a0_2 a1).2.2.2.2.1)).2.2.1) ((dD_DoF a2 ((w10_playF a0_0 a0_1 a0_2 a1).2.1) ((w10_playF a0_0 a0_1 a0_2 a1).2.2.1) ((w10_playF a0_0 a0_1 a0_2 a1).2.2.2.1) ((w10_playF a0_0 a0_1 a0_2 a1).2.2.2.2.1)).2.2.2.1) ((dD_DoF a2 ((w10_playF a0_0 a0_1 a0_2 a1).2.1) ((w10_playF a0_0 a0_1 a0_2 a1).2.2.1) ((w10_playF a0_0 a0_1 a0_2 a1).2.2.2.1) ((w10_playF a0_0 a0_1 a0_2 a1).2.2.2.2.1)).2.2.2.2)) (o.name)).1).size) > (o.size))) (cond (!(a2.verb == (5 : Int))) true (!((((w10_findF (dD_VolumesF ((dD_DoF a2 ((w10_playF a0_0 a0_1 a0_2 a1).2.1) ((w10_playF a0_0 a0_1 a0_2 a1).2.2.1) ((w10_playF a0_0 a0_1 a0_2 a1).2.2.2.1) ((w10_playF a0_0 a0_1 a0_2 a1).2.2.2.2.1)).2.1) ((dD_DoF a2 ((w10_playF a0_0 a0_1 a0_2 a1).2.1) ((w10_playF a0_0 a0_1 a0_2 a1).2.2.1) ((w10_playF a0_0 a0_1 a0_2 a1).2.2.2.1) ((w10_playF a0_0 a0_1 a0_2 a1).2.2.2.2.1)).2.2.1) ((dD_DoF a2 ((w10_playF a0_0 a0_1 a0_2 a1).2.1) ((w10_playF a0_0 a0_1 a0_2 a1).2.2.1) ((w10_playF a0_0 a0_1 a0_2 a1).2.2.2.1) ((w10_playF a0_0 a0_1 a0_2 a1).2.2.2.2.1)).2.2.2.1) ((dD_DoF a2 ((w10_playF a0_0 a0_1 a0_2 a1).2.1) ((w10_playF a0_0 a0_1 a0_2 a1).2.2.1) ((w10_playF a0_0 a0_1 a0_2 a1).2.2.2.1) ((w10_playF a0_0 a0_1 a0_2 a1).2.2.2.2.1)).2.2.2.2)) (o.name)).1).size) == a2.size))) false))
    true
    (w10_DriverGrowsLF a0_0 a0_1 a0_2 a1 a2 r))
abbrev kGr0 (a2 : XCall) (a0_0 : Int) (a0_1 : Int) (a0_2 : Int) (a1 : List XDeed) := (dD_DoF a2 ((w10_playF a0_0 a0_1 a0_2 a1).2.1) ((w10_playF a0_0 a0_1 a0_2 a1).2.2.1) ((w10_playF a0_0 a0_1 a0_2 a1).2.2.2.1) ((w10_playF a0_0 a0_1 a0_2 a1).2.2.2.2.1))
def w10_DriverGrowsLS (a0_0 : Int) (a0_1 : Int) (a0_2 : Int) (a1 : List XDeed) (a2 : XCall) (i : Nat) : St :=
 ⟨slots 137 [(5, .ptr 0 0), (10, .coll ⟨.vol, dD_VolumesF ((w10_playF a0_0 a0_1 a0_2 a1).2.1) ((w10_playF a0_0 a0_1 a0_2 a1).2.2.1) ((w10_playF a0_0 a0_1 a0_2 a1).2.2.2.1) ((w10_playF a0_0 a0_1 a0_2 a1).2.2.2.2.1)⟩), (11, .ptr 1 0), (12, .coll ⟨.vol, dD_VolumesF ((kGr0 a2 a0_0 a0_1 a0_2 a1).2.1) ((kGr0 a2 a0_0 a0_1 a0_2 a1).2.2.1) ((kGr0 a2 a0_0 a0_1 a0_2 a1).2.2.2.1) ((kGr0 a2 a0_0 a0_1 a0_2 a1).2.2.2.2)⟩), (13, .int .i64 (i : Int))], [.cells 49 (cc a2), .cells 52 [.int .i64 (((kGr0 a2 a0_0 a0_1 a0_2 a1).1).err), .int .i64 (((kGr0 a2 a0_0 a0_1 a0_2 a1).1).size), .str (((kGr0 a2 a0_0 a0_1 a0_2 a1).1).zone), .int .u64 (((kGr0 a2 a0_0 a0_1 a0_2 a1).1).tag)]]⟩
abbrev kGr1 (a0_0 : Int) (a0_1 : Int) (a0_2 : Int) (a1 : List XDeed) := (dD_VolumesF ((w10_playF a0_0 a0_1 a0_2 a1).2.1) ((w10_playF a0_0 a0_1 a0_2 a1).2.2.1) ((w10_playF a0_0 a0_1 a0_2 a1).2.2.2.1) ((w10_playF a0_0 a0_1 a0_2 a1).2.2.2.2.1))
abbrev kGr2 (a2 : XCall) (a0_0 : Int) (a0_1 : Int) (a0_2 : Int) (a1 : List XDeed) (i : Nat) := (w10_findF (dD_VolumesF ((kGr0 a2 a0_0 a0_1 a0_2 a1).2.1) ((kGr0 a2 a0_0 a0_1 a0_2 a1).2.2.1) ((kGr0 a2 a0_0 a0_1 a0_2 a1).2.2.2.1) ((kGr0 a2 a0_0 a0_1 a0_2 a1).2.2.2.2)) (((kGr1 a0_0 a0_1 a0_2 a1).getD i default).name))
def w10_DriverGrowsLR (a0_0 : Int) (a0_1 : Int) (a0_2 : Int) (a1 : List XDeed) (a2 : XCall) (i : Nat) : RT :=
 (.ask (decide ((i : Int) < ((kGr1 a0_0 a0_1 a0_2 a1).length : Int)))
   (.need [0 ≤ (i : Int) ∧ (i : Int) < ((kGr1 a0_0 a0_1 a0_2 a1).length : Int)]
     (.need [(dD_VolumesF ((kGr0 a2 a0_0 a0_1 a0_2 a1).2.1) ((kGr0 a2 a0_0 a0_1 a0_2 a1).2.2.1) ((kGr0 a2 a0_0 a0_1 a0_2 a1).2.2.2.1) ((kGr0 a2 a0_0 a0_1 a0_2 a1).2.2.2.2)).length ≤ 1000]
       (.ask (!((kGr2 a2 a0_0 a0_1 a0_2 a1 i).2))
         (.need [((!(a2.verb == (2 : Int))) = false) → (0 ≤ (i : Int) ∧ (i : Int) < ((kGr1 a0_0 a0_1 a0_2 a1).length : Int)), ((cond (cond (!(a2.verb == (2 : Int))) true (!(decide (a2.target = (((kGr1 a0_0 a0_1 a0_2 a1).getD i default).name))))) true (!((((kGr0 a2 a0_0 a0_1 a0_2 a1).1).err) == (0 : Int)))) = false) → (0 ≤ (i : Int) ∧ (i : Int) < ((kGr1 a0_0 a0_1 a0_2 a1).length : Int))]
           (.ask (cond (cond (cond (!(a2.verb == (2 : Int))) true (!(decide (a2.target = (((kGr1 a0_0 a0_1 a0_2 a1).getD i default).name))))) true (!((((kGr0 a2 a0_0 a0_1 a0_2 a1).1).err) == (0 : Int)))) true (decide (((((kGr1 a0_0 a0_1 a0_2 a1).getD i default).nodes).length : Int) > (0 : Int))))
             (.leaf .ret ⟨slots 137 [(6, .bool false)], []⟩ [])
             (.leaf .normal ⟨slots 137 [(5, .ptr 0 0), (10, .coll ⟨.vol, dD_VolumesF ((w10_playF a0_0 a0_1 a0_2 a1).2.1) ((w10_playF a0_0 a0_1 a0_2 a1).2.2.1) ((w10_playF a0_0 a0_1 a0_2 a1).2.2.2.1) ((w10_playF a0_0 a0_1 a0_2 a1).2.2.2.2.1)⟩), (11, .ptr 1 0), (12, .coll ⟨.vol, dD_VolumesF ((kGr0 a2 a0_0 a0_1 a0_2 a1).2.1) ((kGr0 a2 a0_0 a0_1 a0_2 a1).2.2.1) ((kGr0 a2 a0_0 a0_1 a0_2 a1).2.2.2.1) ((kGr0 a2 a0_0 a0_1 a0_2 a1).2.2.2.2)⟩), (13, .int .i64 (IntKind.i64.wrap ((i : Int) + (1 : Int))))], [.cells 49 (cc a2), .cells 52 [.int .i64 (((kGr0 a2 a0_0 a0_1 a0_2 a1).1).err), .int .i64 (((kGr0 a2 a0_0 a0_1 a0_2 a1).1).size), .str (((kGr0 a2 a0_0 a0_1 a0_2 a1).1).zone), .int .u64 (((kGr0 a2 a0_0 a0_1 a0_2 a1).1).tag)]]⟩ [])))
         (.need [0 ≤ (i : Int) ∧ (i : Int) < ((kGr1 a0_0 a0_1 a0_2 a1).length : Int), ((decide ((((kGr2 a2 a0_0 a0_1 a0_2 a1 i).1).size) < (((kGr1 a0_0 a0_1 a0_2 a1).getD i default).size))) = false) → (0 ≤ (i : Int) ∧ (i : Int) < ((kGr1 a0_0 a0_1 a0_2 a1).length : Int)), ((cond (decide ((((kGr2 a2 a0_0 a0_1 a0_2 a1 i).1).size) < (((kGr1 a0_0 a0_1 a0_2 a1).getD i default).size))) true (!(decide ((((kGr2 a2 a0_0 a0_1 a0_2 a1 i).1).zone) = (((kGr1 a0_0 a0_1 a0_2 a1).getD i default).zone))))) = false) → (0 ≤ (i : Int) ∧ (i : Int) < ((kGr1 a0_0 a0_1 a0_2 a1).length : Int)), ((cond (cond (decide ((((kGr2 a2 a0_0 a0_1 a0_2 a1 i).1).size) < (((kGr1 a0_0 a0_1 a0_2 a1).getD i default).size))) true (!(decide ((((kGr2 a2 a0_0 a0_1 a0_2 a1 i).1).zone) = (((kGr1 a0_0 a0_1 a0_2 a1).getD i default).zone))))) true (!((((kGr2 a2 a0_0 a0_1 a0_2 a1 i).1).tag) == (((kGr1 a0_0 a0_1 a0_2 a1).getD i default).tag)))) = false) → (0 ≤ (i : Int) ∧ (i : Int) < ((kGr1 a0_0 a0_1 a0_2 a1).length : Int))]
           (.ask (cond (cond (cond (decide ((((kGr2 a2 a0_0 a0_1 a0_2 a1 i).1).size) < (((kGr1 a0_0 a0_1 a0_2 a1).getD i default).size))) true (!(decide ((((kGr2 a2 a0_0 a0_1 a0_2 a1 i).1).zone) = (((kGr1 a0_0 a0_1 a0_2 a1).getD i default).zone))))) true (!((((kGr2 a2 a0_0 a0_1 a0_2 a1 i).1).tag) == (((kGr1 a0_0 a0_1 a0_2 a1).getD i default).tag)))) true (cond (decide ((((kGr2 a2 a0_0 a0_1 a0_2 a1 i).1).size) > (((kGr1 a0_0 a0_1 a0_2 a1).getD i default).size))) (cond (!(a2.verb == (5 : Int))) true (!((((kGr2 a2 a0_0 a0_1 a0_2 a1 i).1).size) == a2.size))) false))
             (.leaf .ret ⟨slots 137 [(6, .bool false)], []⟩ [])
             (.leaf .normal ⟨slots 137 [(5, .ptr 0 0), (10, .coll ⟨.vol, dD_VolumesF ((w10_playF a0_0 a0_1 a0_2 a1).2.1) ((w10_playF a0_0 a0_1 a0_2 a1).2.2.1) ((w10_playF a0_0 a0_1 a0_2 a1).2.2.2.1) ((w10_playF a0_0 a0_1 a0_2 a1).2.2.2.2.1)⟩), (11, .ptr 1 0), (12, .coll ⟨.vol, dD_VolumesF ((kGr0 a2 a0_0 a0_1 a0_2 a1).2.1) ((kGr0 a2 a0_0 a0_1 a0_2 a1).2.2.1) ((kGr0 a2 a0_0 a0_1 a0_2 a1).2.2.2.1) ((kGr0 a2 a0_0 a0_1 a0_2 a1).2.2.2.2)⟩), (13, .int .i64 (IntKind.i64.wrap ((i : Int) + (1 : Int))))], [.cells 49 (cc a2), .cells 52 [.int .i64 (((kGr0 a2 a0_0 a0_1 a0_2 a1).1).err), .int .i64 (((kGr0 a2 a0_0 a0_1 a0_2 a1).1).size), .str (((kGr0 a2 a0_0 a0_1 a0_2 a1).1).zone), .int .u64 (((kGr0 a2 a0_0 a0_1 a0_2 a1).1).tag)]]⟩ []))))))
   (.leaf (.exit 0) ⟨slots 137 [(10, .coll ⟨.vol, dD_VolumesF ((w10_playF a0_0 a0_1 a0_2 a1).2.1) ((w10_playF a0_0 a0_1 a0_2 a1).2.2.1) ((w10_playF a0_0 a0_1 a0_2 a1).2.2.2.1) ((w10_playF a0_0 a0_1 a0_2 a1).2.2.2.2.1)⟩), (12, .coll ⟨.vol, dD_VolumesF ((kGr0 a2 a0_0 a0_1 a0_2 a1).2.1) ((kGr0 a2 a0_0 a0_1 a0_2 a1).2.2.1) ((kGr0 a2 a0_0 a0_1 a0_2 a1).2.2.2.1) ((kGr0 a2 a0_0 a0_1 a0_2 a1).2.2.2.2)⟩)], []⟩ []))
def w10_DriverGrowsLT (a0_0 : Int) (a0_1 : Int) (a0_2 : Int) (a1 : List XDeed) (a2 : XCall) (i : Nat) : Tree :=
 .ask (w10_DriverGrowsLF a0_0 a0_1 a0_2 a1 a2 ((kGr1 a0_0 a0_1 a0_2 a1).drop i)) (.leaf .ret ⟨slots 137 [(6, .bool false)], []⟩) (.leaf (.exit 0) ⟨slots 137 [(10, .coll ⟨.vol, dD_VolumesF ((w10_playF a0_0 a0_1 a0_2 a1).2.1) ((w10_playF a0_0 a0_1 a0_2 a1).2.2.1) ((w10_playF a0_0 a0_1 a0_2 a1).2.2.2.1) ((w10_playF a0_0 a0_1 a0_2 a1).2.2.2.2.1)⟩), (12, .coll ⟨.vol, dD_VolumesF ((kGr0 a2 a0_0 a0_1 a0_2 a1).2.1) ((kGr0 a2 a0_0 a0_1 a0_2 a1).2.2.1) ((kGr0 a2 a0_0 a0_1 a0_2 a1).2.2.2.1) ((kGr0 a2 a0_0 a0_1 a0_2 a1).2.2.2.2)⟩)], []⟩)
theorem w10_DriverGrowsL_loop (a0_0 : Int) (a0_1 : Int) (a0_2 : Int) (a1 : List XDeed) (a2 : XCall) (hp0 : U8 a0_0) (hp1 : U8 a0_1) (hp2 : U8 a0_2) (hp3 : ∀ x ∈ a1, CS x.c) (hp4 : CS a2) (hlen : (kGr1 a0_0 a0_1 a0_2 a1).length < 4611686018427387904) (z : { z : Nat // z ≤ (kGr1 a0_0 a0_1 a0_2 a1).length }) (Q : Exit → St → Prop) (h : (w10_DriverGrowsLT a0_0 a0_1 a0_2 a1 a2 z.1).All Q) : Tr Try.prog 0 (.loop (loopAt Try.f5 0)) (w10_DriverGrowsLS a0_0 a0_1 a0_2 a1 a2 z.1) Q := by
 refine Tr_loopT (kok _ _ _ _ _ _) (E := E_w10_DriverGrows) (ι := { z : Nat // z ≤ (kGr1 a0_0 a0_1 a0_2 a1).length }) 60 0 (fun _ => noLoops) (fun z => w10_DriverGrowsLS a0_0 a0_1 a0_2 a1 a2 z.1) (fun z => w10_DriverGrowsLT a0_0 a0_1 a0_2 a1 a2 z.1) (fun z => w10_DriverGrowsLR a0_0 a0_1 a0_2 a1 a2 z.1) (fun z => (kGr1 a0_0 a0_1 a0_2 a1).length - z.1) (fun _ => LoopsOk.none) (fun z => by obtain ⟨i, hi⟩ := z; kernel_rfl) (fun z => by obtain ⟨i, hi⟩ := z; kernel_rfl) (fun z => by obtain ⟨i, hi⟩ := z; kernel_rfl) ?_ z Q h
 rintro ⟨i, hi⟩ Q hT
 replace hT : (w10_DriverGrowsLT a0_0 a0_1 a0_2 a1 a2 i).All Q := hT
 replace hi : i ≤ (kGr1 a0_0 a0_1 a0_2 a1).length := hi
 show (w10_DriverGrowsLR a0_0 a0_1 a0_2 a1 a2 i).All _
 unfold w10_DriverGrowsLR
 refine ⟨fun h0 => ?_, fun h0 => ?_⟩
 · have hlt : i < (kGr1 a0_0 a0_1 a0_2 a1).length := by simpa using h0
   have hd := drop_getD hlt
   have hw := wrap_succ (i := i) (by omega)
   refine ⟨need_cons (by first | assumption | omega | ((try intro _); (try simp only [decide_eq_true_eq, decide_eq_false_iff_not, Bool.cond_false_right, Bool.cond_true_right, Bool.cond_true_left, Bool.cond_false_left, Bool.and_eq_true, Bool.or_eq_true, Bool.not_eq_true', bytesLim, maxLen, List.length_cons, List.length_nil, List.length_append, byteSize_lit] at *); omega)) (need_nil), ?_⟩
   refine ⟨need_cons (by (try refine fun (_ : _ = _) => ?_); (try refine fun (_ : _ ∧ _) => ?_); exact play_dolen hp0 hp1 hp2 _ _) (need_nil), ?_⟩
   refine ⟨fun h1 => ?_, fun h1 => ?_⟩
   · refine ⟨(by (iterate 2 refine need_cons (by first | assumption | omega | ((try intro _); (try simp only [decide_eq_true_eq, decide_eq_false_iff_not, Bool.cond_false_right, Bool.cond_true_right, Bool.cond_true_left, Bool.cond_false_left, Bool.and_eq_true, Bool.or_eq_true, Bool.not_eq_true', bytesLim, maxLen, List.length_cons, List.length_nil, List.length_append, byteSize_lit] at *); omega)) ?_); exact need_nil), ?_⟩
     refine ⟨fun h2 => ?_, fun h2 => ?_⟩
     · have hF : w10_DriverGrowsLF a0_0 a0_1 a0_2 a1 a2 ((kGr1 a0_0 a0_1 a0_2 a1).drop i) = true := by rw [hd]; first | exact (cond_t h1 (cond_t h2 rfl)) | simp only [w10_DriverGrowsLF, h0, h1, h2, cond_true, cond_false]
       unfold w10_DriverGrowsLT at hT
       rw [hF] at hT
       exact hT.1 rfl
     · have hF : w10_DriverGrowsLF a0_0 a0_1 a0_2 a1 a2 ((kGr1 a0_0 a0_1 a0_2 a1).drop i) = w10_DriverGrowsLF a0_0 a0_1 a0_2 a1 a2 ((kGr1 a0_0 a0_1 a0_2 a1).drop (i + 1)) := by rw [hd]; first | exact (cond_t h1 (cond_f h2 rfl)) | simp only [w10_DriverGrowsLF, h0, h1, h2, cond_true, cond_false]
       refine ⟨⟨(i + 1), by show (i + 1) ≤ (kGr1 a0_0 a0_1 a0_2 a1).length; omega⟩, by show (kGr1 a0_0 a0_1 a0_2 a1).length - (i + 1) < (kGr1 a0_0 a0_1 a0_2 a1).length - i; omega, ?_, ?_⟩
       · show _ = w10_DriverGrowsLS a0_0 a0_1 a0_2 a1 a2 (i + 1)
         unfold w10_DriverGrowsLS
         simp only [hw]
       · show (w10_DriverGrowsLT a0_0 a0_1 a0_2 a1 a2 (i + 1)).All Q
         unfold w10_DriverGrowsLT at hT ⊢
         rw [hF] at hT
         exact hT
   · refine ⟨(by (iterate 4 refine need_cons (by first | assumption | omega | ((try intro _); (try simp only [decide_eq_true_eq, decide_eq_false_iff_not, Bool.cond_false_right, Bool.cond_true_right, Bool.cond_true_left, Bool.cond_false_left, Bool.and_eq_true, Bool.or_eq_true, Bool.not_eq_true', bytesLim, maxLen, List.length_cons, List.length_nil, List.length_append, byteSize_lit] at *); omega)) ?_); exact need_nil), ?_⟩
     refine ⟨fun h2 => ?_, fun h2 => ?_⟩
     · have hF : w10_DriverGrowsLF a0_0 a0_1 a0_2 a1 a2 ((kGr1 a0_0 a0_1 a0_2 a1).drop i) = true := by rw [hd]; first | exact (cond_f h1 (cond_t h2 rfl)) | simp only [w10_DriverGrowsLF, h0, h1, h2, cond_true, cond_false]
       unfold w10_DriverGrowsLT at hT
       rw [hF] at hT
       exact hT.1 rfl
     · have hF : w10_DriverGrowsLF a0_0 a0_1 a0_2 a1 a2 ((kGr1 a0_0 a0_1 a0_2 a1).drop i) = w10_DriverGrowsLF a0_0 a0_1 a0_2 a1 a2 ((kGr1 a0_0 a0_1 a0_2 a1).drop (i + 1)) := by rw [hd]; first | exact (cond_f h1 (cond_f h2 rfl)) | simp only [w10_DriverGrowsLF, h0, h1, h2, cond_true, cond_false]
       refine ⟨⟨(i + 1), by show (i + 1) ≤ (kGr1 a0_0 a0_1 a0_2 a1).length; omega⟩, by show (kGr1 a0_0 a0_1 a0_2 a1).length - (i + 1) < (kGr1 a0_0 a0_1 a0_2 a1).length - i; omega, ?_, ?_⟩
       · show _ = w10_DriverGrowsLS a0_0 a0_1 a0_2 a1 a2 (i + 1)
         unfold w10_DriverGrowsLS
         simp only [hw]
       · show (w10_DriverGrowsLT a0_0 a0_1 a0_2 a1 a2 (i + 1)).All Q
         unfold w10_DriverGrowsLT at hT ⊢
         rw [hF] at hT
         exact hT
 · have hge : ¬ i < (kGr1 a0_0 a0_1 a0_2 a1).length := by simpa using h0
   have hd : (kGr1 a0_0 a0_1 a0_2 a1).drop i = [] := List.drop_eq_nil_of_le (by omega)
   have hF : w10_DriverGrowsLF a0_0 a0_1 a0_2 a1 a2 ((kGr1 a0_0 a0_1 a0_2 a1).drop i) = false := by rw [hd]; first | exact rfl | simp only [w10_DriverGrowsLF, h0, cond_true, cond_false]
   unfold w10_DriverGrowsLT at hT
   rw [hF] at hT
   exact hT.2 rfl
def w10_DriverGrowsF (a0_0 : Int) (a0_1 : Int) (a0_2 : Int) (a1 : List XDeed) (a2 : XCall) : Bool :=
 cond (cond (!w10_liveF) true (!((w10_playF a0_0 a0_1 a0_2 a1).1)))
  false
  (cond (w10_DriverGrowsLF a0_0 a0_1 a0_2 a1 a2 (dD_VolumesF ((w10_playF a0_0 a0_1 a0_2 a1).2.1) ((w10_playF a0_0 a0_1 a0_2 a1).2.2.1) ((w10_playF a0_0 a0_1 a0_2 a1).2.2.2.1) ((w10_playF a0_0 a0_1 a0_2 a1).2.2.2.2.1)))
    false
    (decide (((dD_VolumesF ((dD_DoF a2 ((w10_playF a0_0 a0_1 a0_2 a1).2.1) ((w10_playF a0_0 a0_1 a0_2 a1).2.2.1) ((w10_playF a0_0 a0_1 a0_2 a1).2.2.2.1) ((w10_playF a0_0 a0_1 a0_2 a1).2.2.2.2.1)).2.1) ((dD_DoF a2 ((w10_playF a0_0 a0_1 a0_2 a1).2.1) ((w10_playF a0_0 a0_1 a0_2 a1).2.2.1) ((w10_playF a0_0 a0_1 a0_2 a1).2.2.2.1) ((w10_playF a0_0 a0_1 a0_2 a1).2.2.2.2.1)).2.2.1) ((dD_DoF a2 ((w10_playF a0_0 a0_1 a0_2 a1).2.1) ((w10_playF a0_0 a0_1 a0_2 a1).2.2.1) ((w10_playF a0_0 a0_1 a0_2 a1).2.2.2.1) ((w10_playF a0_0 a0_1 a0_2 a1).2.2.2.2.1)).2.2.2.1) ((dD_DoF a2 ((w10_playF a0_0 a0_1 a0_2 a1).2.1) ((w10_playF a0_0 a0_1 a0_2 a1).2.2.1) ((w10_playF a0_0 a0_1 a0_2 a1).2.2.2.1) ((w10_playF a0_0 a0_1 a0_2 a1).2.2.2.2.1)).2.2.2.2)).length : Int) ≤ (IntKind.i64.wrap (((dD_VolumesF ((w10_playF a0_0 a0_1 a0_2 a1).2.1) ((w10_playF a0_0 a0_1 a0_2 a1).2.2.1) ((w10_playF a0_0 a0_1 a0_2 a1).2.2.2.1) ((w10_playF a0_0 a0_1 a0_2 a1).2.2.2.2.1)).length : Int) + (1 : Int))))))
def w10_DriverGrowsR (a0_0 : Int) (a0_1 : Int) (a0_2 : Int) (a1 : List XDeed) (a2 : XCall) : RT :=
 (.need [U8 a0_0, U8 a0_1, U8 a0_2, ∀ x ∈ a1, CS x.c]
   (.ask (cond (!w10_liveF) true (!((w10_playF a0_0 a0_1 a0_2 a1).1)))
     (.leaf .ret ⟨slots 137 [(6, .bool false)], []⟩ [])
     (.need [VB ((w10_playF a0_0 a0_1 a0_2 a1).2.2.1)]
       (.need [CS a2]
         (.need [VB ((kGr0 a2 a0_0 a0_1 a0_2 a1).2.2.1)]
           (.ask (w10_DriverGrowsLF a0_0 a0_1 a0_2 a1 a2 (kGr1 a0_0 a0_1 a0_2 a1))
             (.leaf .ret ⟨slots 137 [(6, .bool false)], []⟩ [])
             (.leaf .ret ⟨slots 137 [(6, .bool (decide (((dD_VolumesF ((kGr0 a2 a0_0 a0_1 a0_2 a1).2.1) ((kGr0 a2 a0_0 a0_1 a0_2 a1).2.2.1) ((kGr0 a2 a0_0 a0_1 a0_2 a1).2.2.2.1) ((kGr0 a2 a0_0 a0_1 a0_2 a1).2.2.2.2)).length : Int) ≤ (IntKind.i64.wrap (((kGr1 a0_0 a0_1 a0_2 a1).length : Int) + (1 : Int))))))], []⟩ [])))))))
theorem w10_DriverGrowsF_tr (a0_0 : Int) (a0_1 : Int) (a0_2 : Int) (a1 : List XDeed) (a2 : XCall) (hp0 : U8 a0_0) (hp1 : U8 a0_1) (hp2 : U8 a0_2) (hp3 : ∀ x ∈ a1, CS x.c) (hp4 : CS a2) : Tr Try.prog 0 (bodyOf Try.f5) (fnBegins Try.f5 [.agg [.int .u8 a0_0, .int .u8 a0_1, .int .u8 a0_2], .coll ⟨.deed, a1⟩, .agg (cc a2)] []) (fnEnds Try.prog Try.f5 (.bool (w10_DriverGrowsF a0_0 a0_1 a0_2 a1 a2)) []) := by
 refine Tr_tree (kok _ _ _ _ _ _) (E := E_w10_DriverGrows) (L := (loopsOf [(0, w10_DriverGrowsLS a0_0 a0_1 a0_2 a1 a2 0, [1, 12], w10_DriverGrowsLT a0_0 a0_1 a0_2 a1 a2 0)])) 60 9999 (LoopsOk.one (g := loopAt Try.f5 0) (b := 0) (by kernel_rfl) (by kernel_rfl) (by kernel_rfl) (by kernel_rfl) (fun Q h => w10_DriverGrowsL_loop a0_0 a0_1 a0_2 a1 a2 hp0 hp1 hp2 hp3 hp4 (by exact Nat.lt_of_le_of_lt (play_len hp0 hp1 hp2 a1) (by omega)) ⟨0, by first | exact Nat.zero_le _ | (show 0 ≤ (kGr1 a0_0 a0_1 a0_2 a1).length; omega) | (show 0 ≤ (kGr1 a0_0 a0_1 a0_2 a1).length; exact ⟨Nat.zero_le _, by assumption⟩) | (show 0 ≤ (kGr1 a0_0 a0_1 a0_2 a1).length; simp)⟩ Q h)) (w10_DriverGrowsR a0_0 a0_1 a0_2 a1 a2) (by kernel_rfl) (by kernel_rfl) (by kernel_rfl) ?_
 unfold w10_DriverGrowsR
 refine ⟨(by (iterate 3 refine need_cons (by (try refine fun (_ : _ = _) => ?_); (try refine fun (_ : _ ∧ _) => ?_); assumption) ?_); refine need_cons (by (try refine fun (_ : _ = _) => ?_); (try refine fun (_ : _ ∧ _) => ?_); exact hp3) ?_; exact need_nil), ?_⟩
 refine ⟨fun h0 => ?_, fun h0 => ?_⟩
 · have hF : w10_DriverGrowsF a0_0 a0_1 a0_2 a1 a2 = false := by first | exact (cond_t h0 rfl) | simp only [w10_DriverGrowsF, h0, cond_true, cond_false]
   exact ⟨trivial, .inl (by (try rw [hF]); kernel_rfl), by (try rw [hF]); kernel_rfl⟩
 · refine ⟨need_cons (by (try refine fun (_ : _ = _) => ?_); (try refine fun (_ : _ ∧ _) => ?_); exact play_vb hp0 hp1 hp2 _) (need_nil), ?_⟩
   refine ⟨need_cons (by (try refine fun (_ : _ = _) => ?_); (try refine fun (_ : _ ∧ _) => ?_); exact hp4) (need_nil), ?_⟩
   refine ⟨need_cons (by (try refine fun (_ : _ = _) => ?_); (try refine fun (_ : _ ∧ _) => ?_); exact play_do hp0 hp1 hp2 _ _) (need_nil), ?_⟩
   refine ⟨fun h1 => ?_, fun h1 => ?_⟩
   · have hF : w10_DriverGrowsF a0_0 a0_1 a0_2 a1 a2 = false := by first | exact (cond_f h0 (cond_t h1 rfl)) | simp only [w10_DriverGrowsF, h0, h1, cond_true, cond_false]
     exact ⟨trivial, .inl (by (try rw [hF]); kernel_rfl), by (try rw [hF]); kernel_rfl⟩
   · have hF : w10_DriverGrowsF a0_0 a0_1 a0_2 a1 a2 = (decide (((dD_VolumesF ((kGr0 a2 a0_0 a0_1 a0_2 a1).2.1) ((kGr0 a2 a0_0 a0_1 a0_2 a1).2.2.1) ((kGr0 a2 a0_0 a0_1 a0_2 a1).2.2.2.1) ((kGr0 a2 a0_0 a0_1 a0_2 a1).2.2.2.2)).length : Int) ≤ (IntKind.i64.wrap (((kGr1 a0_0 a0_1 a0_2 a1).length : Int) + (1 : Int))))) := by first | exact (cond_f h0 (cond_f h1 rfl)) | simp only [w10_DriverGrowsF, h0, h1, cond_true, cond_false]
     exact ⟨trivial, .inl (by (try rw [hF]); kernel_rfl), by (try rw [hF]); kernel_rfl⟩
end Go.Proofs.Ytpffbkbadnhmmaa
