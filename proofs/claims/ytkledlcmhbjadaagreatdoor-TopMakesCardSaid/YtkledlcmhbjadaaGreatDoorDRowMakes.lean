/- The row TopMakesSaid: true for every input. -/
import Derived.Test.YtkledlcmhbjadaaGreatDoorDPLM2
import Derived.Test.YtkledlcmhbjadaaGreatDoorDRowBase
import Derived.Test.YtkledlcmhbjadaaGreatDoorCards
import Derived.Test.YtkledlcmhbjadaaGreatDoorTie
set_option linter.unusedVariables false
set_option linter.unusedSimpArgs false
set_option maxRecDepth 100000
namespace Go.Proofs.YtkledlcmhbjadaaGreatDoor.topMakes
open Go.ChangeShapes Go.WideShapes Go.ChangeAt Go.RowKit Go.Eng
theorem walk {vs : List Value} {W : World} {zs : List AV} (hG : ∀ w', (∀ k, k < W.heap.size → w'.heap[k]? = W.heap[k]?) → Globs.G w') (hfit : ArgsFit [(false, [.int .u8]), (false, [.row (.int .u8)])] zs) (hrep : repL ⟨fun _ => none, fun _ => none⟩ (Z20a W) noG zs vs) :
  Calls Tryz.prog 3 ⟨vs⟩ W fun e w' => e = .returned (.bool true) ∧ Below W.heap.size W w' := by
 match zs, hfit with
 | [q0, q1], ⟨⟨a0, f0, e0⟩, ⟨a1, f1, e1⟩, _⟩ =>
  obtain ⟨y0_0, r0_0, rfl, g0_0, k0_0⟩ := Z22.cons f0
  obtain rfl := Z22.nil k0_0
  obtain ⟨a, rfl, h_a⟩ := g0_0.int_inv
  replace h_a := wf_u8 h_a
  obtain ⟨y1_0, r1_0, rfl, g1_0, k1_0⟩ := Z22.cons f1
  obtain rfl := Z22.nil k1_0
  obtain ⟨l, rfl, h_l, w_l⟩ := g1_0.ints_inv
  refine calls_of_law ?_ hrep hG
  rw [show q0 = .int .u8 a from e0]
  rw [show q1 = .coll ⟨.int .u8, l⟩ from e1]
  have := sound_pure (f := 3) (fn := Tryz.f3) (by kernel_rfl) rfl (by kernel_rfl) (by kernel_rfl) (t_TopMakesF_tr a l h_a (fun x hx => wf_u8 (w_l x hx)) (Nat.lt_of_le_of_lt h_l (by decide))) [] 0
  rw [makes_true h_a (fun x hx => wf_u8 (w_l x hx))] at this
  exact this
theorem lifted (os : Os) (started : os.Started) (H : Type) (enc : TypeId × Value → H) :
  ReturnsInHanded {} Tryz.checked os 3 .any (fun w args => (Rows.topMakesSpec.pre enc Tryz.prog Tryz.f3 Rows.topMakesRow.domain false w args ∧ laidMet Tryz.prog laidL w) ∧ sizedMet enc Tryz.prog Tryz.f3 (OpenSpec.ofChange Rows.topMakesSpec) false w args) (Rows.topMakesSpec.post enc Tryz.prog Tryz.f3 false true false false) := by
 refine returnsInHanded_of_change_and (C := Tryz.checked) (X := (fun w _ => laidMet Tryz.prog laidL w)) (fun _ _ _ hh h => h.of_heap hh) own started (by kernel_rfl) Tryz.func3
  (ChangeSpec.witness_at (enc := enc) (C := Tryz.checked) (os := os) (X := (fun w _ => laidMet Tryz.prog laidL w)) false (laidWorld os) #[.int .u8 0, .slice none 0 0] 8 rfl (by kernel_rfl) (by kernel_rfl) (by kernel_rfl) (by kernel_rfl) (by kernel_rfl) (laid_met os _)) ?_
 intro W base args ds gs Z1b1 hval0 hW hcnd hsz0 hL _
 have hsz : (DataW.weightsEach Tryz.prog (Tryz.f3.params.toList ++ Rows.topMakesSpec.plain.varTypes Tryz.prog) (ds ++ gs)).all (· ≤ reachBytes) = true := hsz0
 have hval : ∀ (j : Nat) t v, Tryz.f3.params[j]? = some t → args[j]? = some v → Value.okWide Tryz.prog W .any base t v := hval0
 have hW' := hW
 obtain ⟨p, q, hA0, hV, rfl, hfz, hnd⟩ := hW
 have hA : DataW.TrodAll enc Tryz.prog W 0 (fun _ => true) true Tryz.f3.params.toList args.toList ds p := hA0
 obtain ⟨rfl, rfl⟩ := trodVars_none hV
 rw [List.append_nil, show Rows.topMakesSpec.plain.varTypes Tryz.prog = [] from rfl, List.append_nil] at hsz
 obtain ⟨zs, hfit, hrep⟩ := open_args (ρ := ⟨fun _ => none, fun _ => none⟩) (r := [(false, [.int .u8]), (false, [.row (.int .u8)])]) (by kernel_rfl) hA (fun j t v h1 h2 => hval j t v (by simpa using h1) (by simpa using h2)) (fun k hk => by simpa using List.all_eq_true.1 hsz k hk)
 have hA' := hA
 rw [Tryz.params3] at hA'
 obtain ⟨v0, vs0, d0, ds0, p0, q0, hargs, rfl, rfl, _, r0⟩ := trodAll_cons hA'
 obtain ⟨v1, vs1, d1, ds1, p1, q1, rfl, rfl, rfl, _, r1⟩ := trodAll_cons r0
 obtain ⟨rfl, rfl, rfl⟩ := trodAll_nil r1
 have hback := fun W' (bel : Below W.heap.size W W') => below_all (enc := enc) (W := W) (W' := W') laidOut bel (by kernel_rfl) hA
 have hw := walk (globs_keep (globs_of hL)) hfit hrep
 rw [show (⟨args.toList⟩ : Array Value) = args by simp] at hw
 clear hA0 hval0 hsz0 hsz
 refine hw.mono fun e W' ⟨he, bel⟩ => ?_
 subst he
 exact ⟨_, rfl, _, _, _, [], _, [], hW', trodAll_mk1 (shut_bool Tryz.underlying4 _), hback W' bel, rfl, bel.frame _, fun h => by cases h⟩
theorem over : Rows.topMakesRow.holds Tryz.pinned (OpenSpec.ofChange Rows.topMakesSpec) :=
 OpenClaim.holds_of_wide 3 Tryz.f3 rfl rfl rfl rfl rfl rfl rfl ⟨rfl, rfl, rfl, rfl, rfl⟩ rfl rfl rfl rfl rfl (by kernel_rfl) Tryz.func3 (by unfold joinedFacts; rw [enter_ok, lifts_ok, make_ok]; refine Eq.trans ?_ (Eq.refl true); kernel_rfl)
  (of_decide_eq_true (by kernel_rfl)) (by unfold Func.isWrapper; first | (rw [if_pos (by decide +kernel)]; kernel_rfl) | (rw [if_neg (by decide +kernel)]; exact ⟨rfl, rfl⟩))
  (fun os started H enc _ => lifted os started H enc)
end Go.Proofs.YtkledlcmhbjadaaGreatDoor.topMakes
namespace Go.Proofs.YtkledlcmhbjadaaGreatDoor

theorem topMakes_holds : Rows.TopMakesCardSaid :=
 Claim7.holds_tied_plain_at .later [] [.data, .data, .data] true (true, "5ade48563947ca16fd0de1c3ab6b0ea0a715101f51bde52c0f52a138a15a64ca") false
  topMakes.over (fun _ h => by cases h) (by kernel_rfl) (fun _ h => by cases h) topMakes_row_tie rfl ⟨rfl, rfl⟩ (by kernel_rfl) rfl
  (fun f fn hf hfn => by
    obtain rfl : f = 3 := Option.some.inj ((show Tryz.prog.funcNamed "wharfinger/wharfingertop.TopMakes" = some 3 by kernel_rfl).symm.trans hf) |>.symm
    obtain rfl : fn = Tryz.f3 := (Option.some.inj (Tryz.func3.symm.trans hfn)).symm
    exact ⟨by kernel_rfl, fun j t ht => by
     rw [Tryz.params3] at ht
     have hm : t ∈ [5, 22] := List.mem_of_getElem? (l := [5, 22]) (i := j) (by simpa using ht)
     have hall : ∀ t ∈ [5, 22], Tryz.prog.wantsStandIn t = false := by
      intro t ht
      simp only [List.mem_cons, List.not_mem_nil, or_false] at ht
      rcases ht with ht | ht <;> (subst ht; kernel_rfl)
     exact hall t hm⟩)
  (by kernel_rfl)
#print axioms topMakes_holds
end Go.Proofs.YtkledlcmhbjadaaGreatDoor
