/- The row DriverForksSaid: true for every input. -/
import Derived.Test.YtpffbkbadnhmmaaDPLSF
import Derived.Test.YtpffbkbadnhmmaaDRowBase
set_option linter.unusedVariables false
set_option linter.unusedSimpArgs false
set_option maxRecDepth 100000
namespace Go.Proofs.Ytpffbkbadnhmmaa.driverForks
open Go.ChangeShapes Go.WideShapes Go.ChangeAt Go.RowKit Go.Eng
theorem walk {vs : List Value} {W : World} {zs : List AV} (hG : ∀ w', (∀ k, k < W.heap.size → w'.heap[k]? = W.heap[k]?) → Globs.G w') (hfit : ArgsFit [(true, [.int .u8, .int .u8, .int .u8]), (false, [.row .deed]), (false, [.row .deed])] zs) (hrep : repL ⟨fun _ => none, fun _ => none⟩ (memOf W) noG zs vs) :
  Calls Try.prog 11 ⟨vs⟩ W fun e w' => e = .returned (.bool true) ∧ Below W.heap.size W w' := by
 match zs, hfit with
 | [q0, q1, q2], ⟨⟨a0, f0, e0⟩, ⟨a1, f1, e1⟩, ⟨a2, f2, e2⟩, _⟩ =>
  obtain ⟨y0_0, r0_0, rfl, g0_0, k0_0⟩ := FitsL.cons f0
  obtain ⟨y0_1, r0_1, rfl, g0_1, k0_1⟩ := FitsL.cons k0_0
  obtain ⟨y0_2, r0_2, rfl, g0_2, k0_2⟩ := FitsL.cons k0_1
  obtain rfl := FitsL.nil k0_2
  obtain ⟨x0, rfl, h_x0⟩ := g0_0.int_inv
  replace h_x0 := wf_u8 h_x0
  obtain ⟨x1, rfl, h_x1⟩ := g0_1.int_inv
  replace h_x1 := wf_u8 h_x1
  obtain ⟨x2, rfl, h_x2⟩ := g0_2.int_inv
  replace h_x2 := wf_u8 h_x2
  obtain ⟨y1_0, r1_0, rfl, g1_0, k1_0⟩ := FitsL.cons f1
  obtain rfl := FitsL.nil k1_0
  obtain ⟨l, rfl, h_l, w_l⟩ := g1_0.deeds_inv
  obtain ⟨y2_0, r2_0, rfl, g2_0, k2_0⟩ := FitsL.cons f2
  obtain rfl := FitsL.nil k2_0
  obtain ⟨m, rfl, h_m, w_m⟩ := g2_0.deeds_inv
  refine calls_of_law ?_ hrep hG
  rw [show q0 = .agg [.int .u8 x0, .int .u8 x1, .int .u8 x2] from e0]
  rw [show q1 = .coll ⟨.deed, l⟩ from e1]
  rw [show q2 = .coll ⟨.deed, m⟩ from e2]
  have := sound_pure (f := 11) (fn := Try.f11) (by kernel_rfl) rfl (by kernel_rfl) (by kernel_rfl) (w10_DriverForksF_tr x0 x1 x2 l m h_x0 h_x1 h_x2 (deeds_cs w_l) (deeds_cs w_m)) [] 0
  rw [forks_true h_x0 h_x1 h_x2] at this
  exact this
theorem lifted (os : Os) (started : os.Started) (H : Type) (enc : TypeId × Value → H) :
  ReturnsInHanded {} Try.checked os 11 .any (Rows.driverForksSpec.pre6 enc Try.prog Try.f11 Rows.driverForksRow.domain false) (Rows.driverForksSpec.post enc Try.prog Try.f11 false true false false) := by
 refine returnsInHanded_of_change_sized (C := Try.checked) own started (by kernel_rfl) Try.func11
  (ChangeSpec.witness6 (enc := enc) (C := Try.checked) false ⟨#[], #[.agg #[.int .u8 0, .int .u8 0, .int .u8 0], .slice none 0 0, .slice none 0 0], []⟩ 8 (by kernel_rfl) (by kernel_rfl) (by kernel_rfl) (by kernel_rfl)) ?_
 intro W base args ds gs before hval0 hW hcnd hsz0 _
 have hsz : (DataW.weightsEach Try.prog (Try.f11.params.toList ++ Rows.driverForksSpec.plain.varTypes Try.prog) (ds ++ gs)).all (· ≤ reachBytes) = true := hsz0
 have hval : ∀ (j : Nat) t v, Try.f11.params[j]? = some t → args[j]? = some v → Value.okWide Try.prog W .any base t v := hval0
 have hW' := hW
 obtain ⟨p, q, hA0, hV, rfl, hfz, hnd⟩ := hW
 have hA : DataW.TrodAll enc Try.prog W 0 (fun _ => true) true Try.f11.params.toList args.toList ds p := hA0
 obtain ⟨rfl, rfl⟩ := trodVars_none hV
 rw [List.append_nil, show Rows.driverForksSpec.plain.varTypes Try.prog = [] from rfl, List.append_nil] at hsz
 obtain ⟨zs, hfit, hrep⟩ := open_args (ρ := ⟨fun _ => none, fun _ => none⟩) (r := [(true, [.int .u8, .int .u8, .int .u8]), (false, [.row .deed]), (false, [.row .deed])]) (by kernel_rfl) hA (fun j t v h1 h2 => hval j t v (by simpa using h1) (by simpa using h2)) (fun k hk => by simpa using List.all_eq_true.1 hsz k hk)
 have hA' := hA
 rw [Try.params11] at hA'
 obtain ⟨v0, vs0, d0, ds0, p0, q0, hargs, rfl, rfl, _, r0⟩ := trodAll_cons hA'
 obtain ⟨v1, vs1, d1, ds1, p1, q1, rfl, rfl, rfl, _, r1⟩ := trodAll_cons r0
 obtain ⟨v2, vs2, d2, ds2, p2, q2, rfl, rfl, rfl, _, r2⟩ := trodAll_cons r1
 obtain ⟨rfl, rfl, rfl⟩ := trodAll_nil r2
 have hback := fun W' (bel : Below W.heap.size W W') => below_all (enc := enc) (W := W) (W' := W') laidOut bel (by kernel_rfl) hA
 have hw := walk (fun _ _ => trivial) hfit hrep
 rw [show (⟨args.toList⟩ : Array Value) = args by simp] at hw
 clear hA0 hval0 hsz0 hsz
 refine hw.mono fun e W' ⟨he, bel⟩ => ?_
 subst he
 exact ⟨_, rfl, _, _, _, [], _, [], hW', trodAll_mk1 (shut_bool Try.underlying4 _), hback W' bel, rfl, bel.frame _, fun h => by cases h⟩
theorem over : Rows.driverForksRow.holds Try.pinned (OpenSpec.ofChange Rows.driverForksSpec) :=
 OpenClaim.holds_of_wide 11 Try.f11 rfl rfl rfl rfl rfl rfl rfl ⟨rfl, rfl, rfl, rfl, rfl⟩ rfl rfl rfl rfl rfl (by kernel_rfl) Try.func11 (by unfold joinedFacts; rw [enter_ok, lifts_ok, make_ok]; refine Eq.trans ?_ (Eq.refl true); kernel_rfl)
  (of_decide_eq_true (by kernel_rfl)) (by unfold Func.isWrapper; first | (rw [if_pos (by decide +kernel)]; kernel_rfl) | (rw [if_neg (by decide +kernel)]; exact ⟨rfl, rfl⟩))
  (fun os started H enc _ => lifted os started H enc)
end Go.Proofs.Ytpffbkbadnhmmaa.driverForks
namespace Go.Proofs.Ytpffbkbadnhmmaa

theorem driverForks_holds : Rows.DriverForksSaid := driverForks.over
#print axioms driverForks_holds
end Go.Proofs.Ytpffbkbadnhmmaa
