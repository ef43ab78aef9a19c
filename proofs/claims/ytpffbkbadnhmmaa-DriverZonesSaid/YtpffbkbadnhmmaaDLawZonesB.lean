/- The law DriverZones, where they may not be. -/
import Derived.Test.YtpffbkbadnhmmaaDPLI
set_option linter.unusedVariables false
set_option linter.unusedSimpArgs false
set_option maxRecDepth 100000
namespace Go.Proofs.Ytpffbkbadnhmmaa
open Go Go.Eng
noncomputable def E_w10_DriverZones_2 : Env := envOf (P := Try.prog) [driver_NewB_fact, r10_NewB_fact, w10_live_fact] [] [] ckf true
def w10_DriverZones_2F (a0 : List XZone) : Bool :=
 cond (cond w10_liveF true false) true false
def w10_DriverZones_2R (a0 : List XZone) : RT :=
 (.need [a0.length < 4611686018427387904, ∀ z ∈ a0, z.name.size < 4611686018427387904, (driver_NewF a0).1 = false]
   (.need [a0.length < 4611686018427387904, ∀ z ∈ a0, z.name.size < 4611686018427387904, (r10_NewF a0).1 = false]
     (.ask true
       (.leaf .ret ⟨slots 67 [(2, .bool (cond (cond w10_liveF true false) true false))], []⟩ [])
       .fail)))
theorem w10_DriverZones_2F_tr (a0 : List XZone) (hp0 : a0.length < 4611686018427387904) (hp1 : ∀ z ∈ a0, z.name.size < 4611686018427387904) (hp2 : (driver_NewF a0).1 = false) (hp3 : (r10_NewF a0).1 = false) : Tr Try.prog 0 (bodyOf Try.f3) (fnBegins Try.f3 [.coll ⟨.zone, a0⟩] []) (fnEnds Try.prog Try.f3 (.bool (w10_DriverZones_2F a0)) []) := by
 refine Tr_tree (kok _ _ _ _ _ _) (E := E_w10_DriverZones_2) (L := noLoops) 60 9999 LoopsOk.none (w10_DriverZones_2R a0) (by kernel_rfl) (by kernel_rfl) (by kernel_rfl) ?_
 unfold w10_DriverZones_2R
 refine ⟨need_cons (by (try refine fun (_ : _ = _) => ?_); (try refine fun (_ : _ ∧ _) => ?_); exact hp0) (need_cons (by (try refine fun (_ : _ = _) => ?_); (try refine fun (_ : _ ∧ _) => ?_); exact hp1) (need_cons (by (try refine fun (_ : _ = _) => ?_); (try refine fun (_ : _ ∧ _) => ?_); exact hp2) (need_nil))), ?_⟩
 refine ⟨need_cons (by (try refine fun (_ : _ = _) => ?_); (try refine fun (_ : _ ∧ _) => ?_); exact hp0) (need_cons (by (try refine fun (_ : _ = _) => ?_); (try refine fun (_ : _ ∧ _) => ?_); exact hp1) (need_cons (by (try refine fun (_ : _ = _) => ?_); (try refine fun (_ : _ ∧ _) => ?_); exact hp3) (need_nil))), ?_⟩
 refine ⟨fun h0 => ?_, fun h0 => ?_⟩
 · have hF : w10_DriverZones_2F a0 = (cond (cond w10_liveF true false) true false) := by first | exact rfl | simp only [w10_DriverZones_2F, h0, cond_true, cond_false]
   exact ⟨trivial, .inl (by (try rw [hF]); kernel_rfl), by (try rw [hF]); kernel_rfl⟩
 · exact absurd h0 (by simp)
end Go.Proofs.Ytpffbkbadnhmmaa
