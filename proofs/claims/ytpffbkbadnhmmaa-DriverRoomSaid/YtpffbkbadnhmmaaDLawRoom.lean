/- The law DriverRoom. -/
import Derived.Test.YtpffbkbadnhmmaaDPLI
set_option linter.unusedVariables false
set_option linter.unusedSimpArgs false
set_option maxRecDepth 100000
namespace Go.Proofs.Ytpffbkbadnhmmaa
open Go Go.Eng
noncomputable def E_w10_DriverRoom : Env := envOf (P := Try.prog) [w10_play_fact, w10_live_fact, w10_zones_fact, dD_Room_fact, dD_Volumes_fact] [] [] ckf true
def w10_DriverRoomL1F (a0_0 : Int) (a0_1 : Int) (a0_2 : Int) (i : Nat) : List XVol → Int → Int
 | [], v1_3 => v1_3
 | o1 :: r, v1_3 => cond (decide ((o1.zone) = (((w10_zonesF a0_0 a0_1 a0_2).getD i default).name)))
  (w10_DriverRoomL1F a0_0 a0_1 a0_2 i r (IntKind.i64.wrap (v1_3 + (o1.size))))
  (w10_DriverRoomL1F a0_0 a0_1 a0_2 i r v1_3)
abbrev kRo1 (a0_0 : Int) (a0_1 : Int) (a0_2 : Int) (i : Nat) (a1 : List XDeed) := (dD_RoomF (((w10_zonesF a0_0 a0_1 a0_2).getD i default).name) ((w10_playF a0_0 a0_1 a0_2 a1).2.1) ((w10_playF a0_0 a0_1 a0_2 a1).2.2.1) ((w10_playF a0_0 a0_1 a0_2 a1).2.2.2.1) ((w10_playF a0_0 a0_1 a0_2 a1).2.2.2.2.1))
def w10_DriverRoomL1S (a0_0 : Int) (a0_1 : Int) (a0_2 : Int) (a1 : List XDeed) (i : Nat) (v1_3 : Int) (i1 : Nat) : St :=
 ⟨slots 86 [(5, .ptr 0 0), (8, .vec 1), (9, .int .i64 (i : Int)), (10, .int .i64 ((kRo1 a0_0 a0_1 a0_2 i a1).1)), (11, .bool ((kRo1 a0_0 a0_1 a0_2 i a1).2)), (12, .int .i64 v1_3), (13, .coll ⟨.vol, dD_VolumesF ((w10_playF a0_0 a0_1 a0_2 a1).2.1) ((w10_playF a0_0 a0_1 a0_2 a1).2.2.1) ((w10_playF a0_0 a0_1 a0_2 a1).2.2.2.1) ((w10_playF a0_0 a0_1 a0_2 a1).2.2.2.2.1)⟩), (14, .int .i64 (i1 : Int))], (.cells 102 [.map 2, .map 3, .map 4, .map 5] :: .vec false ⟨.zone, w10_zonesF a0_0 a0_1 a0_2⟩ :: oM ((w10_playF a0_0 a0_1 a0_2 a1).2.1) ((w10_playF a0_0 a0_1 a0_2 a1).2.2.1) ((w10_playF a0_0 a0_1 a0_2 a1).2.2.2.1) ((w10_playF a0_0 a0_1 a0_2 a1).2.2.2.2.1) [])⟩
abbrev kRo0 (a0_0 : Int) (a0_1 : Int) (a0_2 : Int) (a1 : List XDeed) := (dD_VolumesF ((w10_playF a0_0 a0_1 a0_2 a1).2.1) ((w10_playF a0_0 a0_1 a0_2 a1).2.2.1) ((w10_playF a0_0 a0_1 a0_2 a1).2.2.2.1) ((w10_playF a0_0 a0_1 a0_2 a1).2.2.2.2.1))
def w10_DriverRoomL1R (a0_0 : Int) (a0_1 : Int) (a0_2 : Int) (a1 : List XDeed) (i : Nat) (v1_3 : Int) (i1 : Nat) : RT :=
 (.ask (decide ((i1 : Int) < ((kRo0 a0_0 a0_1 a0_2 a1).length : Int)))
   (.need [0 ≤ (i1 : Int) ∧ (i1 : Int) < ((kRo0 a0_0 a0_1 a0_2 a1).length : Int), 0 ≤ (i : Int) ∧ (i : Int) < ((w10_zonesF a0_0 a0_1 a0_2).length : Int)]
     (.ask (decide ((((kRo0 a0_0 a0_1 a0_2 a1).getD i1 default).zone) = (((w10_zonesF a0_0 a0_1 a0_2).getD i default).name)))
       (.need [0 ≤ (i1 : Int) ∧ (i1 : Int) < ((kRo0 a0_0 a0_1 a0_2 a1).length : Int)]
         (.leaf .normal ⟨slots 86 [(5, .ptr 0 0), (8, .vec 1), (9, .int .i64 (i : Int)), (10, .int .i64 ((kRo1 a0_0 a0_1 a0_2 i a1).1)), (11, .bool ((kRo1 a0_0 a0_1 a0_2 i a1).2)), (12, .int .i64 (IntKind.i64.wrap (v1_3 + (((kRo0 a0_0 a0_1 a0_2 a1).getD i1 default).size)))), (13, .coll ⟨.vol, dD_VolumesF ((w10_playF a0_0 a0_1 a0_2 a1).2.1) ((w10_playF a0_0 a0_1 a0_2 a1).2.2.1) ((w10_playF a0_0 a0_1 a0_2 a1).2.2.2.1) ((w10_playF a0_0 a0_1 a0_2 a1).2.2.2.2.1)⟩), (14, .int .i64 (IntKind.i64.wrap ((i1 : Int) + (1 : Int))))], (.cells 102 [.map 2, .map 3, .map 4, .map 5] :: .vec false ⟨.zone, w10_zonesF a0_0 a0_1 a0_2⟩ :: oM ((w10_playF a0_0 a0_1 a0_2 a1).2.1) ((w10_playF a0_0 a0_1 a0_2 a1).2.2.1) ((w10_playF a0_0 a0_1 a0_2 a1).2.2.2.1) ((w10_playF a0_0 a0_1 a0_2 a1).2.2.2.2.1) [])⟩ []))
       (.leaf .normal ⟨slots 86 [(5, .ptr 0 0), (8, .vec 1), (9, .int .i64 (i : Int)), (10, .int .i64 ((kRo1 a0_0 a0_1 a0_2 i a1).1)), (11, .bool ((kRo1 a0_0 a0_1 a0_2 i a1).2)), (12, .int .i64 v1_3), (13, .coll ⟨.vol, dD_VolumesF ((w10_playF a0_0 a0_1 a0_2 a1).2.1) ((w10_playF a0_0 a0_1 a0_2 a1).2.2.1) ((w10_playF a0_0 a0_1 a0_2 a1).2.2.2.1) ((w10_playF a0_0 a0_1 a0_2 a1).2.2.2.2.1)⟩), (14, .int .i64 (IntKind.i64.wrap ((i1 : Int) + (1 : Int))))], (.cells 102 [.map 2, .map 3, .map 4, .map 5] :: .vec false ⟨.zone, w10_zonesF a0_0 a0_1 a0_2⟩ :: oM ((w10_playF a0_0 a0_1 a0_2 a1).2.1) ((w10_playF a0_0 a0_1 a0_2 a1).2.2.1) ((w10_playF a0_0 a0_1 a0_2 a1).2.2.2.1) ((w10_playF a0_0 a0_1 a0_2 a1).2.2.2.2.1) [])⟩ [])))
   (.leaf (.exit 2) ⟨slots 86 [(5, .ptr 0 0), (8, .vec 1), (9, .int .i64 (i : Int)), (10, .int .i64 ((kRo1 a0_0 a0_1 a0_2 i a1).1)), (11, .bool ((kRo1 a0_0 a0_1 a0_2 i a1).2)), (12, .int .i64 v1_3)], (.cells 102 [.map 2, .map 3, .map 4, .map 5] :: .vec false ⟨.zone, w10_zonesF a0_0 a0_1 a0_2⟩ :: oM ((w10_playF a0_0 a0_1 a0_2 a1).2.1) ((w10_playF a0_0 a0_1 a0_2 a1).2.2.1) ((w10_playF a0_0 a0_1 a0_2 a1).2.2.2.1) ((w10_playF a0_0 a0_1 a0_2 a1).2.2.2.2.1) [])⟩ []))
def w10_DriverRoomL1T (a0_0 : Int) (a0_1 : Int) (a0_2 : Int) (a1 : List XDeed) (i : Nat) (v1_3 : Int) (i1 : Nat) : Tree :=
 .leaf (.exit 2) ⟨slots 86 [(5, .ptr 0 0), (8, .vec 1), (9, .int .i64 (i : Int)), (10, .int .i64 ((kRo1 a0_0 a0_1 a0_2 i a1).1)), (11, .bool ((kRo1 a0_0 a0_1 a0_2 i a1).2)), (12, .int .i64 (w10_DriverRoomL1F a0_0 a0_1 a0_2 i ((kRo0 a0_0 a0_1 a0_2 a1).drop i1) v1_3))], (.cells 102 [.map 2, .map 3, .map 4, .map 5] :: .vec false ⟨.zone, w10_zonesF a0_0 a0_1 a0_2⟩ :: oM ((w10_playF a0_0 a0_1 a0_2 a1).2.1) ((w10_playF a0_0 a0_1 a0_2 a1).2.2.1) ((w10_playF a0_0 a0_1 a0_2 a1).2.2.2.1) ((w10_playF a0_0 a0_1 a0_2 a1).2.2.2.2.1) [])⟩
theorem w10_DriverRoomL1_loop (a0_0 : Int) (a0_1 : Int) (a0_2 : Int) (a1 : List XDeed) (i : Nat) (hp0 : U8 a0_0) (hp1 : U8 a0_1) (hp2 : U8 a0_2) (hp3 : ∀ x ∈ a1, CS x.c) (hlen : (kRo0 a0_0 a0_1 a0_2 a1).length < 4611686018427387904) (hn0 : 0 ≤ (i : Int) ∧ (i : Int) < ((w10_zonesF a0_0 a0_1 a0_2).length : Int)) (z : { z : Int × Nat // z.2 ≤ (kRo0 a0_0 a0_1 a0_2 a1).length }) (Q : Exit → St → Prop) (h : (w10_DriverRoomL1T a0_0 a0_1 a0_2 a1 i z.1.1 z.1.2).All Q) : Tr Try.prog 0 (.loop (loopSub (loopAt Try.f4 0) 0 0)) (w10_DriverRoomL1S a0_0 a0_1 a0_2 a1 i z.1.1 z.1.2) Q := by
 refine Tr_loopT (kok _ _ _ _ _ _) (E := E_w10_DriverRoom) (ι := { z : Int × Nat // z.2 ≤ (kRo0 a0_0 a0_1 a0_2 a1).length }) 60 2 (fun _ => noLoops) (fun z => w10_DriverRoomL1S a0_0 a0_1 a0_2 a1 i z.1.1 z.1.2) (fun z => w10_DriverRoomL1T a0_0 a0_1 a0_2 a1 i z.1.1 z.1.2) (fun z => w10_DriverRoomL1R a0_0 a0_1 a0_2 a1 i z.1.1 z.1.2) (fun z => (kRo0 a0_0 a0_1 a0_2 a1).length - z.1.2) (fun _ => LoopsOk.none) (fun z => by obtain ⟨⟨v1_3, i1⟩, hi⟩ := z; kernel_rfl) (fun z => by obtain ⟨⟨v1_3, i1⟩, hi⟩ := z; kernel_rfl) (fun z => by obtain ⟨⟨v1_3, i1⟩, hi⟩ := z; kernel_rfl) ?_ z Q h
 rintro ⟨⟨v1_3, i1⟩, hi⟩ Q hT
 replace hT : (w10_DriverRoomL1T a0_0 a0_1 a0_2 a1 i v1_3 i1).All Q := hT
 replace hi : i1 ≤ (kRo0 a0_0 a0_1 a0_2 a1).length := hi
 show (w10_DriverRoomL1R a0_0 a0_1 a0_2 a1 i v1_3 i1).All _
 unfold w10_DriverRoomL1R
 refine ⟨fun h0 => ?_, fun h0 => ?_⟩
 · have hlt : i1 < (kRo0 a0_0 a0_1 a0_2 a1).length := by simpa using h0
   have hd := drop_getD hlt
   have hw := wrap_succ (i := i1) (by omega)
   refine ⟨need_cons (by first | assumption | omega | ((try intro _); (try simp only [decide_eq_true_eq, decide_eq_false_iff_not, Bool.cond_false_right, Bool.cond_true_right, Bool.cond_true_left, Bool.cond_false_left, Bool.and_eq_true, Bool.or_eq_true, Bool.not_eq_true', bytesLim, maxLen, List.length_cons, List.length_nil, List.length_append, byteSize_lit] at *); omega)) (need_cons (by (try refine fun (_ : _ = _) => ?_); (try refine fun (_ : _ ∧ _) => ?_); first | assumption | exact ⟨by omega, by rw [zones_len]; omega⟩) (need_nil)), ?_⟩
   refine ⟨fun h1 => ?_, fun h1 => ?_⟩
   · refine ⟨need_cons (by first | assumption | omega | ((try intro _); (try simp only [decide_eq_true_eq, decide_eq_false_iff_not, Bool.cond_false_right, Bool.cond_true_right, Bool.cond_true_left, Bool.cond_false_left, Bool.and_eq_true, Bool.or_eq_true, Bool.not_eq_true', bytesLim, maxLen, List.length_cons, List.length_nil, List.length_append, byteSize_lit] at *); omega)) (need_nil), ?_⟩
     have hF : w10_DriverRoomL1F a0_0 a0_1 a0_2 i ((kRo0 a0_0 a0_1 a0_2 a1).drop i1) v1_3 = w10_DriverRoomL1F a0_0 a0_1 a0_2 i ((kRo0 a0_0 a0_1 a0_2 a1).drop (i1 + 1)) (IntKind.i64.wrap (v1_3 + (((kRo0 a0_0 a0_1 a0_2 a1).getD i1 default).size))) := by rw [hd]; first | exact (cond_t h1 rfl) | simp only [w10_DriverRoomL1F, h0, h1, cond_true, cond_false]
     refine ⟨⟨((IntKind.i64.wrap (v1_3 + (((kRo0 a0_0 a0_1 a0_2 a1).getD i1 default).size))), (i1 + 1)), by show (i1 + 1) ≤ (kRo0 a0_0 a0_1 a0_2 a1).length; omega⟩, by show (kRo0 a0_0 a0_1 a0_2 a1).length - (i1 + 1) < (kRo0 a0_0 a0_1 a0_2 a1).length - i1; omega, ?_, ?_⟩
     · show _ = w10_DriverRoomL1S a0_0 a0_1 a0_2 a1 i (IntKind.i64.wrap (v1_3 + (((kRo0 a0_0 a0_1 a0_2 a1).getD i1 default).size))) (i1 + 1)
       unfold w10_DriverRoomL1S
       simp only [hw]
     · show (w10_DriverRoomL1T a0_0 a0_1 a0_2 a1 i (IntKind.i64.wrap (v1_3 + (((kRo0 a0_0 a0_1 a0_2 a1).getD i1 default).size))) (i1 + 1)).All Q
       unfold w10_DriverRoomL1T at hT ⊢
       rw [hF] at hT
       exact hT
   · have hF : w10_DriverRoomL1F a0_0 a0_1 a0_2 i ((kRo0 a0_0 a0_1 a0_2 a1).drop i1) v1_3 = w10_DriverRoomL1F a0_0 a0_1 a0_2 i ((kRo0 a0_0 a0_1 a0_2 a1).drop (i1 + 1)) v1_3 := by rw [hd]; first | exact (cond_f h1 rfl) | simp only [w10_DriverRoomL1F, h0, h1, cond_true, cond_false]
     refine ⟨⟨(v1_3, (i1 + 1)), by show (i1 + 1) ≤ (kRo0 a0_0 a0_1 a0_2 a1).length; omega⟩, by show (kRo0 a0_0 a0_1 a0_2 a1).length - (i1 + 1) < (kRo0 a0_0 a0_1 a0_2 a1).length - i1; omega, ?_, ?_⟩
     · show _ = w10_DriverRoomL1S a0_0 a0_1 a0_2 a1 i v1_3 (i1 + 1)
       unfold w10_DriverRoomL1S
       simp only [hw]
     · show (w10_DriverRoomL1T a0_0 a0_1 a0_2 a1 i v1_3 (i1 + 1)).All Q
       unfold w10_DriverRoomL1T at hT ⊢
       rw [hF] at hT
       exact hT
 · have hge : ¬ i1 < (kRo0 a0_0 a0_1 a0_2 a1).length := by simpa using h0
   have hd : (kRo0 a0_0 a0_1 a0_2 a1).drop i1 = [] := List.drop_eq_nil_of_le (by omega)
   have hF : w10_DriverRoomL1F a0_0 a0_1 a0_2 i ((kRo0 a0_0 a0_1 a0_2 a1).drop i1) v1_3 = v1_3 := by rw [hd]; first | exact rfl | simp only [w10_DriverRoomL1F, h0, cond_true, cond_false]
   unfold w10_DriverRoomL1T at hT
   rw [hF] at hT
   exact hT
def w10_DriverRoomLF (a0_0 : Int) (a0_1 : Int) (a0_2 : Int) (a1 : List XDeed) : Nat → Nat → Bool
 | 0, i => false
 | n + 1, i => cond (cond (cond (!((dD_RoomF (((w10_zonesF a0_0 a0_1 a0_2).getD i default).name) ((w10_playF a0_0 a0_1 a0_2 a1).2.1) ((w10_playF a0_0 a0_1 a0_2 a1).2.2.1) ((w10_playF a0_0 a0_1 a0_2 a1).2.2.2.1) ((w10_playF a0_0 a0_1 a0_2 a1).2.2.2.2.1)).2)) true (decide (((dD_RoomF (((w10_zonesF a0_0 a0_1 a0_2).getD i default).name) ((w10_playF a0_0 a0_1 a0_2 a1).2.1) ((w10_playF a0_0 a0_1 a0_2 a1).2.2.1) ((w10_playF a0_0 a0_1 a0_2 a1).2.2.2.1) ((w10_playF a0_0 a0_1 a0_2 a1).2.2.2.2.1)).1) < (0 : Int)))) true (!((w10_DriverRoomL1F a0_0 a0_1 a0_2 i (dD_VolumesF ((w10_playF a0_0 a0_1 a0_2 a1).2.1) ((w10_playF a0_0 a0_1 a0_2 a1).2.2.1) ((w10_playF a0_0 a0_1 a0_2 a1).2.2.2.1) ((w10_playF a0_0 a0_1 a0_2 a1).2.2.2.2.1)) ((dD_RoomF (((w10_zonesF a0_0 a0_1 a0_2).getD i default).name) ((w10_playF a0_0 a0_1 a0_2 a1).2.1) ((w10_playF a0_0 a0_1 a0_2 a1).2.2.1) ((w10_playF a0_0 a0_1 a0_2 a1).2.2.2.1) ((w10_playF a0_0 a0_1 a0_2 a1).2.2.2.2.1)).1)) == (((w10_zonesF a0_0 a0_1 a0_2).getD i default).room))))
  true
  (w10_DriverRoomLF a0_0 a0_1 a0_2 a1 n (i + 1))
def w10_DriverRoomLS (a0_0 : Int) (a0_1 : Int) (a0_2 : Int) (a1 : List XDeed) (i : Nat) : St :=
 ⟨slots 86 [(5, .ptr 0 0), (8, .vec 1), (9, .int .i64 (i : Int))], (.cells 102 [.map 2, .map 3, .map 4, .map 5] :: .vec false ⟨.zone, w10_zonesF a0_0 a0_1 a0_2⟩ :: oM ((w10_playF a0_0 a0_1 a0_2 a1).2.1) ((w10_playF a0_0 a0_1 a0_2 a1).2.2.1) ((w10_playF a0_0 a0_1 a0_2 a1).2.2.2.1) ((w10_playF a0_0 a0_1 a0_2 a1).2.2.2.2.1) [])⟩
def w10_DriverRoomLR (a0_0 : Int) (a0_1 : Int) (a0_2 : Int) (a1 : List XDeed) (i : Nat) : RT :=
 (.ask (decide ((i : Int) < (3 : Int)))
   (.need [0 ≤ (i : Int) ∧ (i : Int) < ((w10_zonesF a0_0 a0_1 a0_2).length : Int)]
     (.need [VB ((w10_playF a0_0 a0_1 a0_2 a1).2.2.1)]
       (.need [0 ≤ (i : Int) ∧ (i : Int) < ((w10_zonesF a0_0 a0_1 a0_2).length : Int)]
         (.need [((cond (!((kRo1 a0_0 a0_1 a0_2 i a1).2)) true (decide (((kRo1 a0_0 a0_1 a0_2 i a1).1) < (0 : Int)))) = false) → (0 ≤ (i : Int) ∧ (i : Int) < ((w10_zonesF a0_0 a0_1 a0_2).length : Int))]
           (.ask (cond (cond (!((kRo1 a0_0 a0_1 a0_2 i a1).2)) true (decide (((kRo1 a0_0 a0_1 a0_2 i a1).1) < (0 : Int)))) true (!((w10_DriverRoomL1F a0_0 a0_1 a0_2 i (kRo0 a0_0 a0_1 a0_2 a1) ((kRo1 a0_0 a0_1 a0_2 i a1).1)) == (((w10_zonesF a0_0 a0_1 a0_2).getD i default).room))))
             (.leaf .ret ⟨slots 86 [(4, .bool false)], []⟩ [])
             (.leaf .normal ⟨slots 86 [(5, .ptr 0 0), (8, .vec 1), (9, .int .i64 (IntKind.i64.wrap ((i : Int) + (1 : Int))))], (.cells 102 [.map 2, .map 3, .map 4, .map 5] :: .vec false ⟨.zone, w10_zonesF a0_0 a0_1 a0_2⟩ :: oM ((w10_playF a0_0 a0_1 a0_2 a1).2.1) ((w10_playF a0_0 a0_1 a0_2 a1).2.2.1) ((w10_playF a0_0 a0_1 a0_2 a1).2.2.2.1) ((w10_playF a0_0 a0_1 a0_2 a1).2.2.2.2.1) [])⟩ []))))))
   (.leaf (.exit 0) ⟨slots 86 [], []⟩ []))
def w10_DriverRoomLT (a0_0 : Int) (a0_1 : Int) (a0_2 : Int) (a1 : List XDeed) (i : Nat) : Tree :=
 .ask (w10_DriverRoomLF a0_0 a0_1 a0_2 a1 (((3 : Int).toNat) - i) i) (.leaf .ret ⟨slots 86 [(4, .bool false)], []⟩) (.leaf (.exit 0) ⟨slots 86 [], []⟩)
theorem w10_DriverRoomL_loop (a0_0 : Int) (a0_1 : Int) (a0_2 : Int) (a1 : List XDeed) (hp0 : U8 a0_0) (hp1 : U8 a0_1) (hp2 : U8 a0_2) (hp3 : ∀ x ∈ a1, CS x.c) (hlen : ((3 : Int).toNat) < 4611686018427387904) (z : { z : Nat // z ≤ ((3 : Int).toNat) }) (Q : Exit → St → Prop) (h : (w10_DriverRoomLT a0_0 a0_1 a0_2 a1 z.1).All Q) : Tr Try.prog 0 (.loop (loopAt Try.f4 0)) (w10_DriverRoomLS a0_0 a0_1 a0_2 a1 z.1) Q := by
 refine Tr_loopT (kok _ _ _ _ _ _) (E := E_w10_DriverRoom) (ι := { z : Nat // z ≤ ((3 : Int).toNat) }) 60 0 (fun z => loopsOf [(2, w10_DriverRoomL1S a0_0 a0_1 a0_2 a1 z.1 ((dD_RoomF (((w10_zonesF a0_0 a0_1 a0_2).getD z.1 default).name) ((w10_playF a0_0 a0_1 a0_2 a1).2.1) ((w10_playF a0_0 a0_1 a0_2 a1).2.2.1) ((w10_playF a0_0 a0_1 a0_2 a1).2.2.2.1) ((w10_playF a0_0 a0_1 a0_2 a1).2.2.2.2.1)).1) 0, [], .need [0 ≤ (z.1 : Int) ∧ (z.1 : Int) < ((w10_zonesF a0_0 a0_1 a0_2).length : Int)] (w10_DriverRoomL1T a0_0 a0_1 a0_2 a1 z.1 ((dD_RoomF (((w10_zonesF a0_0 a0_1 a0_2).getD z.1 default).name) ((w10_playF a0_0 a0_1 a0_2 a1).2.1) ((w10_playF a0_0 a0_1 a0_2 a1).2.2.1) ((w10_playF a0_0 a0_1 a0_2 a1).2.2.2.1) ((w10_playF a0_0 a0_1 a0_2 a1).2.2.2.2.1)).1) 0))]) (fun z => w10_DriverRoomLS a0_0 a0_1 a0_2 a1 z.1) (fun z => w10_DriverRoomLT a0_0 a0_1 a0_2 a1 z.1) (fun z => w10_DriverRoomLR a0_0 a0_1 a0_2 a1 z.1) (fun z => ((3 : Int).toNat) - z.1) (fun z => by obtain ⟨i, hi⟩ := z; exact LoopsOk.one (g := loopSub (loopAt Try.f4 0) 0 0) (b := 2) (by kernel_rfl) (by kernel_rfl) (by kernel_rfl) (by kernel_rfl) (fun Q h => w10_DriverRoomL1_loop a0_0 a0_1 a0_2 a1 i hp0 hp1 hp2 hp3 (by exact Nat.lt_of_le_of_lt (play_len hp0 hp1 hp2 a1) (by omega)) (h.1 _ List.mem_cons_self) ⟨(((dD_RoomF (((w10_zonesF a0_0 a0_1 a0_2).getD i default).name) ((w10_playF a0_0 a0_1 a0_2 a1).2.1) ((w10_playF a0_0 a0_1 a0_2 a1).2.2.1) ((w10_playF a0_0 a0_1 a0_2 a1).2.2.2.1) ((w10_playF a0_0 a0_1 a0_2 a1).2.2.2.2.1)).1), 0), by first | exact Nat.zero_le _ | (show 0 ≤ (kRo0 a0_0 a0_1 a0_2 a1).length; omega) | (show 0 ≤ (kRo0 a0_0 a0_1 a0_2 a1).length; exact ⟨Nat.zero_le _, by assumption⟩) | (show 0 ≤ (kRo0 a0_0 a0_1 a0_2 a1).length; simp)⟩ Q h.2)) (fun z => by obtain ⟨i, hi⟩ := z; kernel_rfl) (fun z => by obtain ⟨i, hi⟩ := z; kernel_rfl) (fun z => by obtain ⟨i, hi⟩ := z; kernel_rfl) ?_ z Q h
 rintro ⟨i, hi⟩ Q hT
 replace hT : (w10_DriverRoomLT a0_0 a0_1 a0_2 a1 i).All Q := hT
 replace hi : i ≤ ((3 : Int).toNat) := hi
 show (w10_DriverRoomLR a0_0 a0_1 a0_2 a1 i).All _
 unfold w10_DriverRoomLR
 refine ⟨fun h0 => ?_, fun h0 => ?_⟩
 · have hlt : i < ((3 : Int).toNat) := by have h9 := h0; simp only [decide_eq_true_eq, decide_eq_false_iff_not] at h9; omega
   have hd : ((3 : Int).toNat) - i = (((3 : Int).toNat) - (i + 1)) + 1 := by omega
   have hw := wrap_succ (i := i) (by omega)
   refine ⟨need_cons (by (try refine fun (_ : _ = _) => ?_); (try refine fun (_ : _ ∧ _) => ?_); first | assumption | exact ⟨by omega, by rw [zones_len]; omega⟩) (need_nil), ?_⟩
   refine ⟨need_cons (by (try refine fun (_ : _ = _) => ?_); (try refine fun (_ : _ ∧ _) => ?_); exact play_vb hp0 hp1 hp2 _) (need_nil), ?_⟩
   refine ⟨need_cons (by (try refine fun (_ : _ = _) => ?_); (try refine fun (_ : _ ∧ _) => ?_); first | assumption | exact ⟨by omega, by rw [zones_len]; omega⟩) (need_nil), ?_⟩
   refine ⟨need_cons (by (try refine fun (_ : _ = _) => ?_); (try refine fun (_ : _ ∧ _) => ?_); first | assumption | exact ⟨by omega, by rw [zones_len]; omega⟩) (need_nil), ?_⟩
   refine ⟨fun h1 => ?_, fun h1 => ?_⟩
   · have hF : w10_DriverRoomLF a0_0 a0_1 a0_2 a1 (((3 : Int).toNat) - i) i = true := by rw [hd]; first | exact (cond_t h1 rfl) | simp only [w10_DriverRoomLF, h0, h1, cond_true, cond_false]
     unfold w10_DriverRoomLT at hT
     rw [hF] at hT
     exact hT.1 rfl
   · have hF : w10_DriverRoomLF a0_0 a0_1 a0_2 a1 (((3 : Int).toNat) - i) i = w10_DriverRoomLF a0_0 a0_1 a0_2 a1 (((3 : Int).toNat) - (i + 1)) (i + 1) := by rw [hd]; first | exact (cond_f h1 rfl) | simp only [w10_DriverRoomLF, h0, h1, cond_true, cond_false]
     refine ⟨⟨(i + 1), by show (i + 1) ≤ ((3 : Int).toNat); omega⟩, by show ((3 : Int).toNat) - (i + 1) < ((3 : Int).toNat) - i; omega, ?_, ?_⟩
     · show _ = w10_DriverRoomLS a0_0 a0_1 a0_2 a1 (i + 1)
       unfold w10_DriverRoomLS
       simp only [hw]
     · show (w10_DriverRoomLT a0_0 a0_1 a0_2 a1 (i + 1)).All Q
       unfold w10_DriverRoomLT at hT ⊢
       rw [hF] at hT
       exact hT
 · have hge : ¬ i < ((3 : Int).toNat) := by have h9 := h0; simp only [decide_eq_true_eq, decide_eq_false_iff_not] at h9; omega
   have hd : ((3 : Int).toNat) - i = 0 := by omega
   have hF : w10_DriverRoomLF a0_0 a0_1 a0_2 a1 (((3 : Int).toNat) - i) i = false := by rw [hd]; first | exact rfl | simp only [w10_DriverRoomLF, h0, cond_true, cond_false]
   unfold w10_DriverRoomLT at hT
   rw [hF] at hT
   exact hT.2 rfl
def w10_DriverRoomF (a0_0 : Int) (a0_1 : Int) (a0_2 : Int) (a1 : List XDeed) : Bool :=
 cond (cond (!w10_liveF) true (!((w10_playF a0_0 a0_1 a0_2 a1).1)))
  false
  (cond (w10_DriverRoomLF a0_0 a0_1 a0_2 a1 (((3 : Int).toNat)) 0)
    false
    true)
def w10_DriverRoomR (a0_0 : Int) (a0_1 : Int) (a0_2 : Int) (a1 : List XDeed) : RT :=
 (.need [U8 a0_0, U8 a0_1, U8 a0_2, ∀ x ∈ a1, CS x.c]
   (.ask (cond (!w10_liveF) true (!((w10_playF a0_0 a0_1 a0_2 a1).1)))
     (.leaf .ret ⟨slots 86 [(4, .bool false)], []⟩ [])
     (.ask (w10_DriverRoomLF a0_0 a0_1 a0_2 a1 (((3 : Int).toNat)) 0)
       (.leaf .ret ⟨slots 86 [(4, .bool false)], []⟩ [])
       (.leaf .ret ⟨slots 86 [(4, .bool true)], []⟩ []))))
theorem w10_DriverRoomF_tr (a0_0 : Int) (a0_1 : Int) (a0_2 : Int) (a1 : List XDeed) (hp0 : U8 a0_0) (hp1 : U8 a0_1) (hp2 : U8 a0_2) (hp3 : ∀ x ∈ a1, CS x.c) : Tr Try.prog 0 (bodyOf Try.f4) (fnBegins Try.f4 [.agg [.int .u8 a0_0, .int .u8 a0_1, .int .u8 a0_2], .coll ⟨.deed, a1⟩] []) (fnEnds Try.prog Try.f4 (.bool (w10_DriverRoomF a0_0 a0_1 a0_2 a1)) []) := by
 refine Tr_tree (kok _ _ _ _ _ _) (E := E_w10_DriverRoom) (L := (loopsOf [(0, w10_DriverRoomLS a0_0 a0_1 a0_2 a1 0, [1, 11, 3, 4, 5, 6], w10_DriverRoomLT a0_0 a0_1 a0_2 a1 0)])) 60 9999 (LoopsOk.one (g := loopAt Try.f4 0) (b := 0) (by kernel_rfl) (by kernel_rfl) (by kernel_rfl) (by kernel_rfl) (fun Q h => w10_DriverRoomL_loop a0_0 a0_1 a0_2 a1 hp0 hp1 hp2 hp3 (by first | assumption | omega | (simp only [List.length_cons, List.length_nil, List.length_append]; omega)) ⟨0, by first | exact Nat.zero_le _ | (show 0 ≤ ((3 : Int).toNat); omega) | (show 0 ≤ ((3 : Int).toNat); exact ⟨Nat.zero_le _, by assumption⟩) | (show 0 ≤ ((3 : Int).toNat); simp)⟩ Q h)) (w10_DriverRoomR a0_0 a0_1 a0_2 a1) (by kernel_rfl) (by kernel_rfl) (by kernel_rfl) ?_
 unfold w10_DriverRoomR
 refine ⟨(by (iterate 3 refine need_cons (by (try refine fun (_ : _ = _) => ?_); (try refine fun (_ : _ ∧ _) => ?_); assumption) ?_); refine need_cons (by (try refine fun (_ : _ = _) => ?_); (try refine fun (_ : _ ∧ _) => ?_); exact hp3) ?_; exact need_nil), ?_⟩
 refine ⟨fun h0 => ?_, fun h0 => ?_⟩
 · have hF : w10_DriverRoomF a0_0 a0_1 a0_2 a1 = false := by first | exact (cond_t h0 rfl) | simp only [w10_DriverRoomF, h0, cond_true, cond_false]
   exact ⟨trivial, .inl (by (try rw [hF]); kernel_rfl), by (try rw [hF]); kernel_rfl⟩
 · refine ⟨fun h1 => ?_, fun h1 => ?_⟩
   · have hF : w10_DriverRoomF a0_0 a0_1 a0_2 a1 = false := by first | exact (cond_f h0 (cond_t h1 rfl)) | simp only [w10_DriverRoomF, h0, h1, cond_true, cond_false]
     exact ⟨trivial, .inl (by (try rw [hF]); kernel_rfl), by (try rw [hF]); kernel_rfl⟩
   · have hF : w10_DriverRoomF a0_0 a0_1 a0_2 a1 = true := by first | exact (cond_f h0 (cond_f h1 rfl)) | simp only [w10_DriverRoomF, h0, h1, cond_true, cond_false]
     exact ⟨trivial, .inl (by (try rw [hF]); kernel_rfl), by (try rw [hF]); kernel_rfl⟩
end Go.Proofs.Ytpffbkbadnhmmaa
