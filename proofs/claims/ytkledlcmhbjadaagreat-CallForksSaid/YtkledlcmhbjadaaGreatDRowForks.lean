/- The row CallForksSaid: true for every input. -/
import Derived.Test.YtkledlcmhbjadaaGreatDPLWF
import Derived.Test.YtkledlcmhbjadaaGreatDRowBase
set_option linter.unusedVariables false
set_option linter.unusedSimpArgs false
set_option maxRecDepth 100000
namespace Go.Proofs.YtkledlcmhbjadaaGreat.callForks
open Go.ChangeShapes Go.WideShapes Go.ChangeAt Go.RowKit Go.Eng
theorem walk {vs : List Value} {W : World} {zs : List AV} (hG : ∀ w', (∀ k, k < W.heap.size → w'.heap[k]? = W.heap[k]?) → Globs.G w') (hfit : ArgsFit [(false, [.row .deed2]), (false, [.row .deed2])] zs) (hrep : repL ⟨fun _ => none, fun _ => none⟩ (Z1e7 W) noG zs vs) :
  Calls Tryz.prog 4 ⟨vs⟩ W fun e w' => e = .returned (.bool true) ∧ Below W.heap.size W w' := by
 match zs, hfit with
 | [q0, q1], ⟨⟨a0, f0, e0⟩, ⟨a1, f1, e1⟩, _⟩ =>
  obtain ⟨y0_0, r0_0, rfl, g0_0, k0_0⟩ := Z28.cons f0
  obtain rfl := Z28.nil k0_0
  obtain ⟨l, rfl, h_l, w_l⟩ := g0_0.deed2s_inv
  obtain ⟨y1_0, r1_0, rfl, g1_0, k1_0⟩ := Z28.cons f1
  obtain rfl := Z28.nil k1_0
  obtain ⟨m, rfl, h_m, w_m⟩ := g1_0.deed2s_inv
  refine calls_of_law ?_ hrep hG
  rw [show q0 = .coll ⟨.deed2, l⟩ from e0]
  rw [show q1 = .coll ⟨.deed2, m⟩ from e1]
  have := sound_pure (f := 4) (fn := Tryz.f4) (by kernel_rfl) rfl (by kernel_rfl) (by kernel_rfl) (Z297 l m (Z2a3 w_l) (Z2a3 w_m)) [] 0
  rw [cforks_true (Z2a3 w_l) (Z2a3 w_m)] at this
  exact this
theorem lifted (os : Os) (started : os.Started) (H : Type) (enc : TypeId × Value → H) :
  ReturnsInHanded {} Tryz.checked os 4 .any (Rows.callForksSpec.pre6 enc Tryz.prog Tryz.f4 Rows.callForksRow.domain false) (Rows.callForksSpec.post enc Tryz.prog Tryz.f4 false true false false) := by
 refine returnsInHanded_of_change_sized (C := Tryz.checked) own started (by kernel_rfl) Tryz.func4
  (ChangeSpec.witness6 (enc := enc) (C := Tryz.checked) false ⟨#[], #[.slice none 0 0, .slice none 0 0], []⟩ 8 (by kernel_rfl) (by kernel_rfl) (by kernel_rfl) (by kernel_rfl)) ?_
 intro W base args ds gs Z183 hval0 hW hcnd hsz0 _
 have hsz : (DataW.weightsEach Tryz.prog (Tryz.f4.params.toList ++ Rows.callForksSpec.plain.varTypes Tryz.prog) (ds ++ gs)).all (· ≤ reachBytes) = true := hsz0
 have hval : ∀ (j : Nat) t v, Tryz.f4.params[j]? = some t → args[j]? = some v → Value.okWide Tryz.prog W .any base t v := hval0
 have hW' := hW
 obtain ⟨p, q, hA0, hV, rfl, hfz, hnd⟩ := hW
 have hA : DataW.TrodAll enc Tryz.prog W 0 (fun _ => true) true Tryz.f4.params.toList args.toList ds p := hA0
 obtain ⟨rfl, rfl⟩ := trodVars_none hV
 rw [List.append_nil, show Rows.callForksSpec.plain.varTypes Tryz.prog = [] from rfl, List.append_nil] at hsz
 obtain ⟨zs, hfit, hrep⟩ := open_args (ρ := ⟨fun _ => none, fun _ => none⟩) (r := [(false, [.row .deed2]), (false, [.row .deed2])]) (by kernel_rfl) hA (fun j t v h1 h2 => hval j t v (by simpa using h1) (by simpa using h2)) (fun k hk => by simpa using List.all_eq_true.1 hsz k hk)
 have hA' := hA
 rw [Tryz.params4] at hA'
 obtain ⟨v0, vs0, d0, ds0, p0, q0, hargs, rfl, rfl, _, r0⟩ := trodAll_cons hA'
 obtain ⟨v1, vs1, d1, ds1, p1, q1, rfl, rfl, rfl, _, r1⟩ := trodAll_cons r0
 obtain ⟨rfl, rfl, rfl⟩ := trodAll_nil r1
 have hback := fun W' (bel : Below W.heap.size W W') => below_all (enc := enc) (W := W) (W' := W') laidOut bel (by kernel_rfl) hA
 have hw := walk (fun _ _ => trivial) hfit hrep
 rw [show (⟨args.toList⟩ : Array Value) = args by simp] at hw
 clear hA0 hval0 hsz0 hsz
 refine hw.mono fun e W' ⟨he, bel⟩ => ?_
 subst he
 exact ⟨_, rfl, _, _, _, [], _, [], hW', trodAll_mk1 (shut_bool Tryz.underlying4 _), hback W' bel, rfl, bel.frame _, fun h => by cases h⟩
theorem over : Rows.callForksRow.holds Tryz.pinned (OpenSpec.ofChange Rows.callForksSpec) :=
 OpenClaim.holds_of_wide 4 Tryz.f4 rfl rfl rfl rfl rfl rfl rfl ⟨rfl, rfl, rfl, rfl, rfl⟩ rfl rfl rfl rfl rfl (by kernel_rfl) Tryz.func4 (by unfold joinedFacts; rw [enter_ok, lifts_ok, make_ok]; refine Eq.trans ?_ (Eq.refl true); kernel_rfl)
  (of_decide_eq_true (by kernel_rfl)) (by unfold Func.isWrapper; first | (rw [if_pos (by decide +kernel)]; kernel_rfl) | (rw [if_neg (by decide +kernel)]; exact ⟨rfl, rfl⟩))
  (fun os started H enc _ => lifted os started H enc)
end Go.Proofs.YtkledlcmhbjadaaGreat.callForks
namespace Go.Proofs.YtkledlcmhbjadaaGreat

theorem callForks_holds : Rows.CallForksSaid := callForks.over
#print axioms callForks_holds
end Go.Proofs.YtkledlcmhbjadaaGreat
