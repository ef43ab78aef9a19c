/- The law DriverZones, where they may be. -/
import Derived.Test.YtpffbkbadnhmmaaDPLI
set_option linter.unusedVariables false
set_option linter.unusedSimpArgs false
set_option maxRecDepth 100000
namespace Go.Proofs.Ytpffbkbadnhmmaa
open Go Go.Eng
noncomputable def E_w10_DriverZones : Env := envOf (P := Try.prog) [driver_NewA_fact, r10_NewA_fact, dD_Room_fact, w10_live_fact, dD_Volumes_fact, dD_Snaps_fact] [] [] ckf true
def w10_DriverZonesLF (a0 : List XZone) : List XZone → Bool
 | [] => false
 | o :: r => cond (cond (!((dD_RoomF (o.name) ((driver_NewF a0).2.1) ((driver_NewF a0).2.2.1) ((driver_NewF a0).2.2.2.1) ((driver_NewF a0).2.2.2.2)).2)) true (!(((dD_RoomF (o.name) ((driver_NewF a0).2.1) ((driver_NewF a0).2.2.1) ((driver_NewF a0).2.2.2.1) ((driver_NewF a0).2.2.2.2)).1) == (o.room))))
  true
  (w10_DriverZonesLF a0 r)
def w10_DriverZonesLS (a0 : List XZone) (i : Nat) : St :=
 ⟨slots 67 [(0, .coll ⟨.zone, a0⟩), (3, .ptr 0 0), (5, .int .i64 (i : Int))], (.cells 102 [.map 1, .map 2, .map 3, .map 4] :: oM ((driver_NewF a0).2.1) ((driver_NewF a0).2.2.1) ((driver_NewF a0).2.2.2.1) ((driver_NewF a0).2.2.2.2) [])⟩
def w10_DriverZonesLR (a0 : List XZone) (i : Nat) : RT :=
 (.ask (decide ((i : Int) < (a0.length : Int)))
   (.need [0 ≤ (i : Int) ∧ (i : Int) < (a0.length : Int)]
     (.need [((!((dD_RoomF ((a0.getD i default).name) ((driver_NewF a0).2.1) ((driver_NewF a0).2.2.1) ((driver_NewF a0).2.2.2.1) ((driver_NewF a0).2.2.2.2)).2)) = false) → (0 ≤ (i : Int) ∧ (i : Int) < (a0.length : Int))]
       (.ask (cond (!((dD_RoomF ((a0.getD i default).name) ((driver_NewF a0).2.1) ((driver_NewF a0).2.2.1) ((driver_NewF a0).2.2.2.1) ((driver_NewF a0).2.2.2.2)).2)) true (!(((dD_RoomF ((a0.getD i default).name) ((driver_NewF a0).2.1) ((driver_NewF a0).2.2.1) ((driver_NewF a0).2.2.2.1) ((driver_NewF a0).2.2.2.2)).1) == ((a0.getD i default).room))))
         (.leaf .ret ⟨slots 67 [(2, .bool false)], []⟩ [])
         (.leaf .normal ⟨slots 67 [(0, .coll ⟨.zone, a0⟩), (3, .ptr 0 0), (5, .int .i64 (IntKind.i64.wrap ((i : Int) + (1 : Int))))], (.cells 102 [.map 1, .map 2, .map 3, .map 4] :: oM ((driver_NewF a0).2.1) ((driver_NewF a0).2.2.1) ((driver_NewF a0).2.2.2.1) ((driver_NewF a0).2.2.2.2) [])⟩ []))))
   (.leaf (.exit 0) ⟨slots 67 [(3, .ptr 0 0)], (.cells 102 [.map 1, .map 2, .map 3, .map 4] :: oM ((driver_NewF a0).2.1) ((driver_NewF a0).2.2.1) ((driver_NewF a0).2.2.2.1) ((driver_NewF a0).2.2.2.2) [])⟩ []))
def w10_DriverZonesLT (a0 : List XZone) (i : Nat) : Tree :=
 .ask (w10_DriverZonesLF a0 (a0.drop i)) (.leaf .ret ⟨slots 67 [(2, .bool false)], []⟩) (.leaf (.exit 0) ⟨slots 67 [(3, .ptr 0 0)], (.cells 102 [.map 1, .map 2, .map 3, .map 4] :: oM ((driver_NewF a0).2.1) ((driver_NewF a0).2.2.1) ((driver_NewF a0).2.2.2.1) ((driver_NewF a0).2.2.2.2) [])⟩)
theorem w10_DriverZonesL_loop (a0 : List XZone) (hp0 : a0.length < 4611686018427387904) (hp1 : ∀ z ∈ a0, z.name.size < 4611686018427387904) (hp2 : (driver_NewF a0).1 = true) (hp3 : (r10_NewF a0).1 = true) (hlen : a0.length < 4611686018427387904) (z : { z : Nat // z ≤ a0.length }) (Q : Exit → St → Prop) (h : (w10_DriverZonesLT a0 z.1).All Q) : Tr Try.prog 0 (.loop (loopAt Try.f3 0)) (w10_DriverZonesLS a0 z.1) Q := by
 refine Tr_loopT (kok _ _ _ _ _ _) (E := E_w10_DriverZones) (ι := { z : Nat // z ≤ a0.length }) 60 0 (fun _ => noLoops) (fun z => w10_DriverZonesLS a0 z.1) (fun z => w10_DriverZonesLT a0 z.1) (fun z => w10_DriverZonesLR a0 z.1) (fun z => a0.length - z.1) (fun _ => LoopsOk.none) (fun z => by obtain ⟨i, hi⟩ := z; kernel_rfl) (fun z => by obtain ⟨i, hi⟩ := z; kernel_rfl) (fun z => by obtain ⟨i, hi⟩ := z; kernel_rfl) ?_ z Q h
 rintro ⟨i, hi⟩ Q hT
 replace hT : (w10_DriverZonesLT a0 i).All Q := hT
 replace hi : i ≤ a0.length := hi
 show (w10_DriverZonesLR a0 i).All _
 unfold w10_DriverZonesLR
 refine ⟨fun h0 => ?_, fun h0 => ?_⟩
 · have hlt : i < a0.length := by simpa using h0
   have hd := drop_getD hlt
   have hw := wrap_succ (i := i) (by omega)
   refine ⟨need_cons (by first | assumption | omega | ((try intro _); (try simp only [decide_eq_true_eq, decide_eq_false_iff_not, Bool.cond_false_right, Bool.cond_true_right, Bool.cond_true_left, Bool.cond_false_left, Bool.and_eq_true, Bool.or_eq_true, Bool.not_eq_true', bytesLim, maxLen, List.length_cons, List.length_nil, List.length_append, byteSize_lit] at *); omega)) (need_nil), ?_⟩
   refine ⟨need_cons (by first | assumption | omega | ((try intro _); (try simp only [decide_eq_true_eq, decide_eq_false_iff_not, Bool.cond_false_right, Bool.cond_true_right, Bool.cond_true_left, Bool.cond_false_left, Bool.and_eq_true, Bool.or_eq_true, Bool.not_eq_true', bytesLim, maxLen, List.length_cons, List.length_nil, List.length_append, byteSize_lit] at *); omega)) (need_nil), ?_⟩
   refine ⟨fun h1 => ?_, fun h1 => ?_⟩
   · have hF : w10_DriverZonesLF a0 (a0.drop i) = true := by rw [hd]; first | exact (cond_t h1 rfl) | simp only [w10_DriverZonesLF, h0, h1, cond_true, cond_false]
     unfold w10_DriverZonesLT at hT
     rw [hF] at hT
     exact hT.1 rfl
   · have hF : w10_DriverZonesLF a0 (a0.drop i) = w10_DriverZonesLF a0 (a0.drop (i + 1)) := by rw [hd]; first | exact (cond_f h1 rfl) | simp only [w10_DriverZonesLF, h0, h1, cond_true, cond_false]
     refine ⟨⟨(i + 1), by show (i + 1) ≤ a0.length; omega⟩, by show a0.length - (i + 1) < a0.length - i; omega, ?_, ?_⟩
     · show _ = w10_DriverZonesLS a0 (i + 1)
       unfold w10_DriverZonesLS
       simp only [hw]
     · show (w10_DriverZonesLT a0 (i + 1)).All Q
       unfold w10_DriverZonesLT at hT ⊢
       rw [hF] at hT
       exact hT
 · have hge : ¬ i < a0.length := by simpa using h0
   have hd : a0.drop i = [] := List.drop_eq_nil_of_le (by omega)
   have hF : w10_DriverZonesLF a0 (a0.drop i) = false := by rw [hd]; first | exact rfl | simp only [w10_DriverZonesLF, h0, cond_true, cond_false]
   unfold w10_DriverZonesLT at hT
   rw [hF] at hT
   exact hT.2 rfl
def w10_DriverZonesF (a0 : List XZone) : Bool :=
 cond (w10_DriverZonesLF a0 a0)
   false
   (cond (cond w10_liveF (((dD_VolumesF ((driver_NewF a0).2.1) ((driver_NewF a0).2.2.1) ((driver_NewF a0).2.2.2.1) ((driver_NewF a0).2.2.2.2)).length : Int) == (0 : Int)) false) (((dD_SnapsF ((driver_NewF a0).2.1) ((driver_NewF a0).2.2.1) ((driver_NewF a0).2.2.2.1) ((driver_NewF a0).2.2.2.2)).length : Int) == (0 : Int)) false)
def w10_DriverZonesR (a0 : List XZone) : RT :=
 (.need [a0.length < 4611686018427387904, ∀ z ∈ a0, z.name.size < 4611686018427387904, (driver_NewF a0).1 = true]
   (.need [a0.length < 4611686018427387904, ∀ z ∈ a0, z.name.size < 4611686018427387904, (r10_NewF a0).1 = true]
     (.ask false
       .fail
       (.ask (w10_DriverZonesLF a0 a0)
         (.leaf .ret ⟨slots 67 [(2, .bool false)], []⟩ [])
         (.need [(w10_liveF = true) → (VB ((driver_NewF a0).2.2.1))]
           (.need [((cond w10_liveF (((dD_VolumesF ((driver_NewF a0).2.1) ((driver_NewF a0).2.2.1) ((driver_NewF a0).2.2.2.1) ((driver_NewF a0).2.2.2.2)).length : Int) == (0 : Int)) false) = true) → (NK ((driver_NewF a0).2.2.2.1))]
             (.leaf .ret ⟨slots 67 [(2, .bool (cond (cond w10_liveF (((dD_VolumesF ((driver_NewF a0).2.1) ((driver_NewF a0).2.2.1) ((driver_NewF a0).2.2.2.1) ((driver_NewF a0).2.2.2.2)).length : Int) == (0 : Int)) false) (((dD_SnapsF ((driver_NewF a0).2.1) ((driver_NewF a0).2.2.1) ((driver_NewF a0).2.2.2.1) ((driver_NewF a0).2.2.2.2)).length : Int) == (0 : Int)) false))], []⟩ [])))))))
theorem w10_DriverZonesF_tr (a0 : List XZone) (hp0 : a0.length < 4611686018427387904) (hp1 : ∀ z ∈ a0, z.name.size < 4611686018427387904) (hp2 : (driver_NewF a0).1 = true) (hp3 : (r10_NewF a0).1 = true) : Tr Try.prog 0 (bodyOf Try.f3) (fnBegins Try.f3 [.coll ⟨.zone, a0⟩] []) (fnEnds Try.prog Try.f3 (.bool (w10_DriverZonesF a0)) []) := by
 refine Tr_tree (kok _ _ _ _ _ _) (E := E_w10_DriverZones) (L := (loopsOf [(0, w10_DriverZonesLS a0 0, [], w10_DriverZonesLT a0 0)])) 60 9999 (LoopsOk.one (g := loopAt Try.f3 0) (b := 0) (by kernel_rfl) (by kernel_rfl) (by kernel_rfl) (by kernel_rfl) (fun Q h => w10_DriverZonesL_loop a0 hp0 hp1 hp2 hp3 (by exact hp0) ⟨0, by first | exact Nat.zero_le _ | (show 0 ≤ a0.length; omega) | (show 0 ≤ a0.length; exact ⟨Nat.zero_le _, by assumption⟩) | (show 0 ≤ a0.length; simp)⟩ Q h)) (w10_DriverZonesR a0) (by kernel_rfl) (by kernel_rfl) (by kernel_rfl) ?_
 unfold w10_DriverZonesR
 refine ⟨need_cons (by (try refine fun (_ : _ = _) => ?_); (try refine fun (_ : _ ∧ _) => ?_); exact hp0) (need_cons (by (try refine fun (_ : _ = _) => ?_); (try refine fun (_ : _ ∧ _) => ?_); exact hp1) (need_cons (by (try refine fun (_ : _ = _) => ?_); (try refine fun (_ : _ ∧ _) => ?_); exact hp2) (need_nil))), ?_⟩
 refine ⟨need_cons (by (try refine fun (_ : _ = _) => ?_); (try refine fun (_ : _ ∧ _) => ?_); exact hp0) (need_cons (by (try refine fun (_ : _ = _) => ?_); (try refine fun (_ : _ ∧ _) => ?_); exact hp1) (need_cons (by (try refine fun (_ : _ = _) => ?_); (try refine fun (_ : _ ∧ _) => ?_); exact hp3) (need_nil))), ?_⟩
 refine ⟨fun h0 => ?_, fun h0 => ?_⟩
 · exact absurd h0 (by simp)
 · refine ⟨fun h1 => ?_, fun h1 => ?_⟩
   · have hF : w10_DriverZonesF a0 = false := by first | exact (cond_t h1 rfl) | simp only [w10_DriverZonesF, h0, h1, cond_true, cond_false]
     exact ⟨trivial, .inl (by (try rw [hF]); kernel_rfl), by (try rw [hF]); kernel_rfl⟩
   · refine ⟨need_cons (by (try refine fun (_ : _ = _) => ?_); (try refine fun (_ : _ ∧ _) => ?_); exact iv_vb ((new_iv ((new_flag _).1 hp2)).mono (by omega))) (need_nil), ?_⟩
     refine ⟨need_cons (by (try refine fun (_ : _ = _) => ?_); (try refine fun (_ : _ ∧ _) => ?_); exact iv_nk (new_iv ((new_flag _).1 hp2))) (need_nil), ?_⟩
     have hF : w10_DriverZonesF a0 = (cond (cond w10_liveF (((dD_VolumesF ((driver_NewF a0).2.1) ((driver_NewF a0).2.2.1) ((driver_NewF a0).2.2.2.1) ((driver_NewF a0).2.2.2.2)).length : Int) == (0 : Int)) false) (((dD_SnapsF ((driver_NewF a0).2.1) ((driver_NewF a0).2.2.1) ((driver_NewF a0).2.2.2.1) ((driver_NewF a0).2.2.2.2)).length : Int) == (0 : Int)) false) := by first | exact (cond_f h1 rfl) | simp only [w10_DriverZonesF, h0, h1, cond_true, cond_false]
     exact ⟨trivial, .inl (by (try rw [hF]); kernel_rfl), by (try rw [hF]); kernel_rfl⟩
end Go.Proofs.Ytpffbkbadnhmmaa
