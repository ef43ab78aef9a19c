/- The card TopoSameCardSaid: true for every input. -/
import Derived.Test.YtbjlmmeabonbpaaDoorDPL3
import Derived.Test.YtbjlmmeabonbpaaDoorDRowBase
import Derived.Test.YtbjlmmeabonbpaaDoorCards
import Derived.Test.YtbjlmmeabonbpaaDoorTie
set_option linter.unusedVariables false
set_option linter.unusedSimpArgs false
set_option maxRecDepth 100000
namespace Go.Proofs.YtbjlmmeabonbpaaDoor.topoSame
open Go.ChangeShapes Go.WideShapes Go.ChangeAt Go.RowKit Go.Eng
theorem walk {vs : List Value} {W : World} {zs : List AV} (hG : ∀ w', (∀ k, k < W.heap.size → w'.heap[k]? = W.heap[k]?) → Globs.G w') (hfit : ArgsFit [(true, [.row .term, .row .term]), (true, [.row .label, .row .label])] zs) (hrep : repL ⟨fun _ => none, fun _ => none⟩ (memOf W) noG zs vs) :
    Calls Tryd.prog 5 ⟨vs⟩ W fun e w' => e = .returned (.bool true) ∧ Below W.heap.size W w' := by
  match zs, hfit with
  | [q0, q1], ⟨⟨a0, f0, e0⟩, ⟨a1, f1, e1⟩, _⟩ =>
    obtain ⟨y0_0, r0_0, rfl, g0_0, k0_0⟩ := FitsL.cons f0
    obtain ⟨y0_1, r0_1, rfl, g0_1, k0_1⟩ := FitsL.cons k0_0
    obtain rfl := FitsL.nil k0_1
    obtain ⟨a, rfl, h_a, w_a⟩ := g0_0.terms_inv
    obtain ⟨b, rfl, h_b, w_b⟩ := g0_1.terms_inv
    obtain ⟨y1_0, r1_0, rfl, g1_0, k1_0⟩ := FitsL.cons f1
    obtain ⟨y1_1, r1_1, rfl, g1_1, k1_1⟩ := FitsL.cons k1_0
    obtain rfl := FitsL.nil k1_1
    obtain ⟨c, rfl, h_c, w_c⟩ := g1_0.labels_inv
    obtain ⟨d, rfl, h_d, w_d⟩ := g1_1.labels_inv
    have E0 : q0 = .agg [.coll ⟨.term, a⟩, .coll ⟨.term, b⟩] := e0
    have E1 : q1 = .agg [.coll ⟨.label, c⟩, .coll ⟨.label, d⟩] := e1
    refine calls_of_law ?_ hrep hG
    rw [E0]
    rw [E1]
    have := sound_pure (f := 5) (fn := Tryd.f5) (by kernel_rfl) rfl (by kernel_rfl) (by kernel_rfl) (w02_TopoSameF_tr a b c d (Nat.lt_of_le_of_lt h_a (by decide)) (Nat.lt_of_le_of_lt h_b (by decide)) (Nat.lt_of_le_of_lt h_c (by decide)) (Nat.lt_of_le_of_lt h_d (by decide)) (fun q hq => (w_a q hq).fine) (fun q hq => (w_b q hq).fine) (fun q hq => (w_c q hq).fine) (fun q hq => (w_d q hq).fine)) [] 0
    rw [topoSame a b c d] at this
    exact this
theorem reads (os : Os) {H : Type} (enc : TypeId × Value → H) : ∃ x, DataW.whole enc Tryd.prog ((laidWorld os).forCall (fun _ _ => 0) ⟨#[], #[.agg #[.slice none 0 0, .slice none 0 0], .agg #[.slice none 0 0, .slice none 0 0]], []⟩).memory Tryd.f5.params.toList Rows.topoSameSpec.vars false (#[.agg #[.slice none 0 0, .slice none 0 0], .agg #[.slice none 0 0, .slice none 0 0]] : Array Value).toList 8 = some x ∧ Rows.topoSameRow.domain.all (PathCond.test Tryd.prog ⟨Tryd.f5.params.toList, x.1, Rows.topoSameSpec.plain.varTypes Tryd.prog, x.2.1⟩) = true ∧ (∀ k, (OpenSpec.ofChange Rows.topoSameSpec).cond = some k → k H (x.1 ++ x.2.1) = true) :=
  ⟨([.agg [.nil, .nil], .agg [.nil, .nil]], [], []), by kernel_rfl, by kernel_rfl, fun k hk => by cases hk⟩
theorem lifted (os : Os) (started : os.Started) (H : Type) (enc : TypeId × Value → H) (F : Stop.Interp) :
    ReturnsInHanded {} Tryd.checked os 5 .any ((OpenSpec.ofChange Rows.topoSameSpec).preRow enc Tryd.prog Tryd.f5 Rows.topoSameRow.domain false Rows.topoSameRow.laid) (((OpenSpec.ofChange Rows.topoSameSpec).at F).post enc Tryd.prog Tryd.f5 false true false false) := by
  obtain ⟨x, hx, hx2, hx3⟩ := reads os enc
  refine returnsInHanded_of_row (C := Tryd.checked) (s := (OpenSpec.ofChange Rows.topoSameSpec)) own started (by kernel_rfl) Tryd.func5
    (witness_row_at (enc := enc) (C := Tryd.checked) false (laidWorld os) #[.agg #[.slice none 0 0, .slice none 0 0], .agg #[.slice none 0 0, .slice none 0 0]] rfl (by kernel_rfl) (by kernel_rfl) (by kernel_rfl)
      (OpenSpec.preRow_of_cond 8 hx hx2 hx3 (by kernel_rfl) (laid_met os _))) ?_
  intro W base args ds gs before hval0 hW _ hcond hsz0 hL _ _
  have hsz : (DataW.weightsEach Tryd.prog (Tryd.f5.params.toList ++ Rows.topoSameSpec.plain.varTypes Tryd.prog) (ds ++ gs)).all (· ≤ reachBytes) = true := hsz0
  have hval : ∀ (j : Nat) t v, Tryd.f5.params[j]? = some t → args[j]? = some v → Value.okWide Tryd.prog W .any base t v := hval0
  have hW' : DataW.Whole enc Tryd.prog Tryd.f5.params.toList Rows.topoSameSpec.vars false W args.toList ds gs before := hW
  obtain ⟨p, q, hA0, hV, rfl, hfz, hnd⟩ := hW
  have hA : DataW.TrodAll enc Tryd.prog W 0 (fun _ => true) true Tryd.f5.params.toList args.toList ds p := hA0
  obtain ⟨rfl, rfl⟩ := trodVars_none hV
  rw [List.append_nil, show Rows.topoSameSpec.plain.varTypes Tryd.prog = [] from rfl, List.append_nil] at hsz
  obtain ⟨zs, hfit, hrep⟩ := open_args (ρ := ⟨fun _ => none, fun _ => none⟩) (r := [(true, [.row .term, .row .term]), (true, [.row .label, .row .label])]) (by kernel_rfl) hA (fun j t v h1 h2 => hval j t v (by simpa using h1) (by simpa using h2)) (fun k hk => by simpa using List.all_eq_true.1 hsz k hk)
  have hA' := hA
  rw [Tryd.params5] at hA'
  obtain ⟨v0, vs0, d0, ds0, p0, q0, hargs, rfl, rfl, t0, r0⟩ := trodAll_cons hA'
  obtain ⟨v1, vs1, d1, ds1, p1, q1, rfl, rfl, rfl, t1, r1⟩ := trodAll_cons r0
  obtain ⟨rfl, rfl, rfl⟩ := trodAll_nil r1
  have hback := fun W' (bel : Below W.heap.size W W') => below_all (enc := enc) (W := W) (W' := W') laidOut bel (by kernel_rfl) hA
  have hw := walk (vs := args.toList) (fun _ _ => trivial) hfit hrep
  rw [show (⟨args.toList⟩ : Array Value) = args by simp] at hw
  clear hA0 hval0 hsz0 hsz
  refine hw.mono fun e W' ⟨he, bel⟩ => ?_
  subst he
  exact ⟨_, rfl, _, _, _, [], _, [], hW', trodAll_mk1 (shut_bool Tryd.underlying4 _), hback W' bel, rfl, bel.frame _, fun h => by cases h⟩
theorem over : Rows.topoSameRow.holds Tryd.pinned (OpenSpec.ofChange Rows.topoSameSpec) :=
  OpenClaim.holds_of_cond 5 Tryd.f5 rfl rfl rfl rfl rfl rfl rfl ⟨rfl, rfl, rfl, rfl, rfl⟩ rfl rfl rfl rfl rfl (by kernel_rfl) Tryd.func5 (by kernel_rfl)
    (of_decide_eq_true (by kernel_rfl)) (by unfold Func.isWrapper; first | (rw [if_pos (by decide +kernel)]; kernel_rfl) | (rw [if_neg (by decide +kernel)]; exact ⟨rfl, rfl⟩))
    (fun os started H enc _ F => by rw [OpenClaim.pre_eq_preRow]; exact lifted os started H enc F)
end Go.Proofs.YtbjlmmeabonbpaaDoor.topoSame
namespace Go.Proofs.YtbjlmmeabonbpaaDoor

/-- The tied card, for the claim. -/
theorem topoSame_holds : Rows.TopoSameCardSaid :=
  Claim7.holds_tied_plain_at .later [] [.data, .pinned] true (true, "8e62909151969cee79c8af58ec14c17c38428616f17c6246fcf2078d0950cb5f") false
    topoSame.over (fun _ h => by cases h) (by kernel_rfl) (fun _ h => by cases h) topoSame_row_tie rfl ⟨rfl, rfl⟩ (by kernel_rfl) rfl
    (fun f fn hf hfn => by
      obtain rfl : f = 5 := Option.some.inj ((show Tryd.prog.funcNamed "wharfinger/wharfingerlaw02.TopoSame" = some 5 by kernel_rfl).symm.trans hf) |>.symm
      obtain rfl : fn = Tryd.f5 := (Option.some.inj (Tryd.func5.symm.trans hfn)).symm
      exact ⟨by kernel_rfl, fun j t ht => by
        rw [Tryd.params5] at ht
        have hm : t ∈ [44, 45] := List.mem_of_getElem? (l := [44, 45]) (i := j) (by simpa using ht)
        have hall : ∀ t ∈ [44, 45], Tryd.prog.wantsStandIn t = false := by
          intro t ht
          simp only [List.mem_cons, List.not_mem_nil, or_false] at ht
          rcases ht with ht | ht <;> (subst ht; kernel_rfl)
        exact hall t hm⟩)
    (by kernel_rfl)
#print axioms topoSame_holds
end Go.Proofs.YtbjlmmeabonbpaaDoor
