/- The card TopoParsesUptoCardSaid: true for every input that is not too great. -/
import Derived.Test.YtbjlmmeabonbpaaDoorDPL2
import Derived.Test.YtbjlmmeabonbpaaDoorDRowBase
import Derived.Test.YtbjlmmeabonbpaaDoorCards
import Derived.Test.YtbjlmmeabonbpaaDoorTie
set_option linter.unusedVariables false
set_option linter.unusedSimpArgs false
set_option maxRecDepth 100000
namespace Go.Proofs.YtbjlmmeabonbpaaDoor.topoParsesUpto
open Go.ChangeShapes Go.WideShapes Go.ChangeAt Go.RowKit Go.Eng
theorem walk {vs : List Value} {W : World} {zs : List AV} (hG : ∀ w', (∀ k, k < W.heap.size → w'.heap[k]? = W.heap[k]?) → Globs.G w') (hb0 : ∀ s, vs[0]? = some (.string s) → s.size ≤ 1048576) (hfit : ArgsFit [(false, [.str])] zs) (hrep : repL ⟨fun _ => none, fun _ => none⟩ (memOf W) noG zs vs) :
    Calls Tryd.prog 3 ⟨vs⟩ W fun e w' => e = .returned (.bool true) ∧ Below W.heap.size W w' := by
  match zs, hfit with
  | [q0], ⟨⟨a0, f0, e0⟩, _⟩ =>
    obtain ⟨y0_0, r0_0, rfl, g0_0, k0_0⟩ := FitsL.cons f0
    obtain rfl := FitsL.nil k0_0
    obtain ⟨s, rfl, h_s⟩ := g0_0.str_inv
    have E0 : q0 = .str s := e0
    have hrep2 := hrep
    rw [E0] at hrep2
    have b_s : s.size ≤ 1048576 := by
      match vs, hrep2, hb0 with
      | [u0], hrep2, hb0 =>
        simp only [repL, and_true] at hrep2
        have hu : u0 = .string s := by
          have := hrep2
          simpa only [rep] using this
        exact hb0 s (by simp [hu])
    refine calls_of_law ?_ hrep hG
    rw [E0]
    have := sound_pure (f := 3) (fn := Tryd.f3) (by kernel_rfl) rfl (by kernel_rfl) (by kernel_rfl) (w02_TopoParsesF_tr s b_s) [] 0
    rw [topoParses s b_s] at this
    exact this
theorem reads (os : Os) {H : Type} (enc : TypeId × Value → H) : ∃ x, DataW.whole enc Tryd.prog ((laidWorld os).forCall (fun _ _ => 0) ⟨#[], #[.string ByteArray.empty], []⟩).memory Tryd.f3.params.toList Rows.topoParsesSpec.vars false (#[.string ByteArray.empty] : Array Value).toList 8 = some x ∧ Rows.topoParsesUptoRow.domain.all (PathCond.test Tryd.prog ⟨Tryd.f3.params.toList, x.1, Rows.topoParsesSpec.plain.varTypes Tryd.prog, x.2.1⟩) = true ∧ (∀ k, (Rows.OpenSpec.upto Rows.topoParsesSpec).cond = some k → k H (x.1 ++ x.2.1) = true) :=
  ⟨([.lit (.string [])], [], []), by kernel_rfl, by kernel_rfl, fun k hk => by cases hk; kernel_rfl⟩
theorem lifted (os : Os) (started : os.Started) (H : Type) (enc : TypeId × Value → H) (F : Stop.Interp) :
    ReturnsInHanded {} Tryd.checked os 3 .any ((Rows.OpenSpec.upto Rows.topoParsesSpec).preRow enc Tryd.prog Tryd.f3 Rows.topoParsesUptoRow.domain false Rows.topoParsesUptoRow.laid) (((Rows.OpenSpec.upto Rows.topoParsesSpec).at F).post enc Tryd.prog Tryd.f3 false true false false) := by
  obtain ⟨x, hx, hx2, hx3⟩ := reads os enc
  refine returnsInHanded_of_row (C := Tryd.checked) (s := (Rows.OpenSpec.upto Rows.topoParsesSpec)) own started (by kernel_rfl) Tryd.func3
    (witness_row_at (enc := enc) (C := Tryd.checked) false (laidWorld os) #[.string ByteArray.empty] rfl (by kernel_rfl) (by kernel_rfl) (by kernel_rfl)
      (OpenSpec.preRow_of_cond 8 hx hx2 hx3 (by kernel_rfl) (laid_met os _))) ?_
  intro W base args ds gs before hval0 hW _ hcond hsz0 hL _ _
  have hsz : (DataW.weightsEach Tryd.prog (Tryd.f3.params.toList ++ Rows.topoParsesSpec.plain.varTypes Tryd.prog) (ds ++ gs)).all (· ≤ reachBytes) = true := hsz0
  have hval : ∀ (j : Nat) t v, Tryd.f3.params[j]? = some t → args[j]? = some v → Value.okWide Tryd.prog W .any base t v := hval0
  have hW' : DataW.Whole enc Tryd.prog Tryd.f3.params.toList Rows.topoParsesSpec.vars false W args.toList ds gs before := hW
  obtain ⟨p, q, hA0, hV, rfl, hfz, hnd⟩ := hW
  have hA : DataW.TrodAll enc Tryd.prog W 0 (fun _ => true) true Tryd.f3.params.toList args.toList ds p := hA0
  obtain ⟨rfl, rfl⟩ := trodVars_none hV
  rw [List.append_nil, show Rows.topoParsesSpec.plain.varTypes Tryd.prog = [] from rfl, List.append_nil] at hsz
  obtain ⟨zs, hfit, hrep⟩ := open_args (ρ := ⟨fun _ => none, fun _ => none⟩) (r := [(false, [.str])]) (by kernel_rfl) hA (fun j t v h1 h2 => hval j t v (by simpa using h1) (by simpa using h2)) (fun k hk => by simpa using List.all_eq_true.1 hsz k hk)
  have hA' := hA
  rw [Tryd.params3] at hA'
  obtain ⟨v0, vs0, d0, ds0, p0, q0, hargs, rfl, rfl, t0, r0⟩ := trodAll_cons hA'
  obtain ⟨rfl, rfl, rfl⟩ := trodAll_nil r0
  have hb0 : ∀ s, args.toList[0]? = some (.string s) → s.size ≤ 1048576 := fun s hs => by
    have hv : v0 = .string s := by rw [hargs] at hs; simpa using hs
    have ht := Go.ChangeMaps.open_string Tryd.underlying9 (hval 0 9 v0 (by rw [Tryd.params3]; rfl) (by rw [← Array.getElem?_toList, hargs]; rfl)) t0
    obtain ⟨s2, e1, e2, _, _⟩ := ht
    rw [hv] at e1
    injection e1 with e1
    subst e1
    exact bulk_str (l := [d0] ++ []) (by rw [e2]; simp) (hcond _ rfl)
  have hback := fun W' (bel : Below W.heap.size W W') => below_all (enc := enc) (W := W) (W' := W') laidOut bel (by kernel_rfl) hA
  have hw := walk (vs := args.toList) (fun _ _ => trivial) hb0 hfit hrep
  rw [show (⟨args.toList⟩ : Array Value) = args by simp] at hw
  clear hA0 hval0 hsz0 hsz
  refine hw.mono fun e W' ⟨he, bel⟩ => ?_
  subst he
  exact ⟨_, rfl, _, _, _, [], _, [], hW', trodAll_mk1 (shut_bool Tryd.underlying4 _), hback W' bel, rfl, bel.frame _, fun h => by cases h⟩
theorem over : Rows.topoParsesUptoRow.holds Tryd.pinned (Rows.OpenSpec.upto Rows.topoParsesSpec) :=
  OpenClaim.holds_of_cond 3 Tryd.f3 rfl rfl rfl rfl rfl rfl rfl ⟨rfl, rfl, rfl, rfl, rfl⟩ rfl rfl rfl rfl rfl (by kernel_rfl) Tryd.func3 (by kernel_rfl)
    (of_decide_eq_true (by kernel_rfl)) (by unfold Func.isWrapper; first | (rw [if_pos (by decide +kernel)]; kernel_rfl) | (rw [if_neg (by decide +kernel)]; exact ⟨rfl, rfl⟩))
    (fun os started H enc _ F => by rw [OpenClaim.pre_eq_preRow]; exact lifted os started H enc F)
end Go.Proofs.YtbjlmmeabonbpaaDoor.topoParsesUpto
namespace Go.Proofs.YtbjlmmeabonbpaaDoor

/-- The tied card, for the claim. -/
theorem topoParsesUpto_holds : Rows.TopoParsesUptoCardSaid :=
  Claim7.holds_tied_plain_at .later [] [.data, .pinned] true (true, "8e62909151969cee79c8af58ec14c17c38428616f17c6246fcf2078d0950cb5f") false
    topoParsesUpto.over (fun _ h => by cases h) (by kernel_rfl) (fun _ h => by cases h) topoParsesUpto_row_tie rfl ⟨rfl, rfl⟩ (by kernel_rfl) rfl
    (fun f fn hf hfn => by
      obtain rfl : f = 3 := Option.some.inj ((show Tryd.prog.funcNamed "wharfinger/wharfingerlaw02.TopoParses" = some 3 by kernel_rfl).symm.trans hf) |>.symm
      obtain rfl : fn = Tryd.f3 := (Option.some.inj (Tryd.func3.symm.trans hfn)).symm
      exact ⟨by kernel_rfl, fun j t ht => by
        rw [Tryd.params3] at ht
        have hm : t ∈ [9] := List.mem_of_getElem? (l := [9]) (i := j) (by simpa using ht)
        have hall : ∀ t ∈ [9], Tryd.prog.wantsStandIn t = false := by
          intro t ht
          simp only [List.mem_cons, List.not_mem_nil, or_false] at ht
          rcases ht with ht <;> (subst ht; kernel_rfl)
        exact hall t hm⟩)
    (by kernel_rfl)
#print axioms topoParsesUpto_holds
end Go.Proofs.YtbjlmmeabonbpaaDoor
