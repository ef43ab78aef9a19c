/- The row DriverZonesSaid: true for every input. -/
import Derived.Test.YtpffbkbadnhmmaaDPLJ
import Derived.Test.YtpffbkbadnhmmaaDRowBase
set_option linter.unusedVariables false
set_option linter.unusedSimpArgs false
set_option maxRecDepth 100000
namespace Go.Proofs.Ytpffbkbadnhmmaa.driverZones
open Go.ChangeShapes Go.WideShapes Go.ChangeAt Go.RowKit Go.Eng
theorem walk {vs : List Value} {W : World} {zs : List AV} (hG : ∀ w', (∀ k, k < W.heap.size → w'.heap[k]? = W.heap[k]?) → Globs.G w') (hfit : ArgsFit [(false, [.row .zone])] zs) (hrep : repL ⟨fun _ => none, fun _ => none⟩ (memOf W) noG zs vs) :
  Calls Try.prog 3 ⟨vs⟩ W fun e w' => e = .returned (.bool true) ∧ Below W.heap.size W w' := by
 match zs, hfit with
 | [q0], ⟨⟨a0, f0, e0⟩, _⟩ =>
  obtain ⟨y0_0, r0_0, rfl, g0_0, k0_0⟩ := FitsL.cons f0
  obtain rfl := FitsL.nil k0_0
  obtain ⟨l, rfl, h_l, w_l⟩ := g0_0.zones_inv
  refine calls_of_law ?_ hrep hG
  rw [show q0 = .coll ⟨.zone, l⟩ from e0]
  by_cases hz : (driver_NewF l).1 = true
  · have hv := (new_flag l).1 hz
    have := sound_pure (f := 3) (fn := Try.f3) (by kernel_rfl) rfl (by kernel_rfl) (by kernel_rfl) (w10_DriverZonesF_tr l (zones_len' h_l) (zones_names w_l) hz ((rnew_flag l).2 hv)) [] 0
    rw [zonesA_true l hv] at this
    exact this
  · have hn : ¬ ZV l := fun h => hz ((new_flag l).2 h)
    have h1 : (driver_NewF l).1 = false := by simpa using hz
    have h2 : (r10_NewF l).1 = false := by
     cases e : (r10_NewF l).1 with
     | false => rfl
     | true => exact absurd ((rnew_flag l).1 e) hn
    have := sound_pure (f := 3) (fn := Try.f3) (by kernel_rfl) rfl (by kernel_rfl) (by kernel_rfl) (w10_DriverZones_2F_tr l (zones_len' h_l) (zones_names w_l) h1 h2) [] 0
    rw [zonesB_true] at this
    exact this
theorem lifted (os : Os) (started : os.Started) (H : Type) (enc : TypeId × Value → H) :
  ReturnsInHanded {} Try.checked os 3 .any (Rows.driverZonesSpec.pre6 enc Try.prog Try.f3 Rows.driverZonesRow.domain false) (Rows.driverZonesSpec.post enc Try.prog Try.f3 false true false false) := by
 refine returnsInHanded_of_change_sized (C := Try.checked) own started (by kernel_rfl) Try.func3
  (ChangeSpec.witness6 (enc := enc) (C := Try.checked) false ⟨#[], #[.slice none 0 0], []⟩ 8 (by kernel_rfl) (by kernel_rfl) (by kernel_rfl) (by kernel_rfl)) ?_
 intro W base args ds gs before hval0 hW hcnd hsz0 _
 have hsz : (DataW.weightsEach Try.prog (Try.f3.params.toList ++ Rows.driverZonesSpec.plain.varTypes Try.prog) (ds ++ gs)).all (· ≤ reachBytes) = true := hsz0
 have hval : ∀ (j : Nat) t v, Try.f3.params[j]? = some t → args[j]? = some v → Value.okWide Try.prog W .any base t v := hval0
 have hW' := hW
 obtain ⟨p, q, hA0, hV, rfl, hfz, hnd⟩ := hW
 have hA : DataW.TrodAll enc Try.prog W 0 (fun _ => true) true Try.f3.params.toList args.toList ds p := hA0
 obtain ⟨rfl, rfl⟩ := trodVars_none hV
 rw [List.append_nil, show Rows.driverZonesSpec.plain.varTypes Try.prog = [] from rfl, List.append_nil] at hsz
 obtain ⟨zs, hfit, hrep⟩ := open_args (ρ := ⟨fun _ => none, fun _ => none⟩) (r := [(false, [.row .zone])]) (by kernel_rfl) hA (fun j t v h1 h2 => hval j t v (by simpa using h1) (by simpa using h2)) (fun k hk => by simpa using List.all_eq_true.1 hsz k hk)
 have hA' := hA
 rw [Try.params3] at hA'
 obtain ⟨v0, vs0, d0, ds0, p0, q0, hargs, rfl, rfl, _, r0⟩ := trodAll_cons hA'
 obtain ⟨rfl, rfl, rfl⟩ := trodAll_nil r0
 have hback := fun W' (bel : Below W.heap.size W W') => below_all (enc := enc) (W := W) (W' := W') laidOut bel (by kernel_rfl) hA
 have hw := walk (fun _ _ => trivial) hfit hrep
 rw [show (⟨args.toList⟩ : Array Value) = args by simp] at hw
 clear hA0 hval0 hsz0 hsz
 refine hw.mono fun e W' ⟨he, bel⟩ => ?_
 subst he
 exact ⟨_, rfl, _, _, _, [], _, [], hW', trodAll_mk1 (shut_bool Try.underlying4 _), hback W' bel, rfl, bel.frame _, fun h => by cases h⟩
theorem over : Rows.driverZonesRow.holds Try.pinned (OpenSpec.ofChange Rows.driverZonesSpec) :=
 OpenClaim.holds_of_wide 3 Try.f3 rfl rfl rfl rfl rfl rfl rfl ⟨rfl, rfl, rfl, rfl, rfl⟩ rfl rfl rfl rfl rfl (by kernel_rfl) Try.func3 (by unfold joinedFacts; rw [enter_ok, lifts_ok, make_ok]; refine Eq.trans ?_ (Eq.refl true); kernel_rfl)
  (of_decide_eq_true (by kernel_rfl)) (by unfold Func.isWrapper; first | (rw [if_pos (by decide +kernel)]; kernel_rfl) | (rw [if_neg (by decide +kernel)]; exact ⟨rfl, rfl⟩))
  (fun os started H enc _ => lifted os started H enc)
end Go.Proofs.Ytpffbkbadnhmmaa.driverZones
namespace Go.Proofs.Ytpffbkbadnhmmaa

theorem driverZones_holds : Rows.DriverZonesSaid := driverZones.over
#print axioms driverZones_holds
end Go.Proofs.Ytpffbkbadnhmmaa
