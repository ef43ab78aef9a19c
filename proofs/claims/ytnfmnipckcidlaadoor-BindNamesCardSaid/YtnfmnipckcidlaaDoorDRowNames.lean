/- The row BindNamesSaid: true for every input. -/
import Derived.Test.YtnfmnipckcidlaaDoorDPL3
import Derived.Test.YtnfmnipckcidlaaDoorDRowBase
import Derived.Test.YtnfmnipckcidlaaDoorCards
import Derived.Test.YtnfmnipckcidlaaDoorTie
set_option linter.unusedVariables false
set_option linter.unusedSimpArgs false
set_option maxRecDepth 100000
namespace Go.Proofs.YtnfmnipckcidlaaDoor.bindNames
open Go.ChangeShapes Go.WideShapes Go.ChangeAt Go.RowKit Go.Eng
theorem walk {vs : List Value} {W : World} {zs : List AV} (hG : ∀ w', (∀ k, k < W.heap.size → w'.heap[k]? = W.heap[k]?) → Globs.G w') (hfit : ArgsFit [(false, [.row .obj]), (true, [.int .u8, .str, .int .u64, .int .u64, .bool, .bool, .str, .int .i64, .int .i64, .int .u8, .bool, .bool, .str, .str, .str, .str, .str, .int .u8, .int .u64, .int .u64])] zs) (hrep : repL ⟨fun _ => none, fun _ => none⟩ (memOf W) noG zs vs) :
    Calls Tryd.prog 4 ⟨vs⟩ W fun e w' => e = .returned (.bool true) ∧ Below W.heap.size W w' := by
  match zs, hfit with
  | [q0, q1], ⟨⟨a0, f0, e0⟩, ⟨a1, f1, e1⟩, _⟩ =>
    obtain ⟨y0_0, r0_0, rfl, g0_0, k0_0⟩ := FitsL.cons f0
    obtain rfl := FitsL.nil k0_0
    obtain ⟨l, rfl, h_l, w_l⟩ := g0_0.objs_inv
    obtain ⟨y1_0, r1_0, rfl, g1_0, k1_0⟩ := FitsL.cons f1
    obtain ⟨y1_1, r1_1, rfl, g1_1, k1_1⟩ := FitsL.cons k1_0
    obtain ⟨y1_2, r1_2, rfl, g1_2, k1_2⟩ := FitsL.cons k1_1
    obtain ⟨y1_3, r1_3, rfl, g1_3, k1_3⟩ := FitsL.cons k1_2
    obtain ⟨y1_4, r1_4, rfl, g1_4, k1_4⟩ := FitsL.cons k1_3
    obtain ⟨y1_5, r1_5, rfl, g1_5, k1_5⟩ := FitsL.cons k1_4
    obtain ⟨y1_6, r1_6, rfl, g1_6, k1_6⟩ := FitsL.cons k1_5
    obtain ⟨y1_7, r1_7, rfl, g1_7, k1_7⟩ := FitsL.cons k1_6
    obtain ⟨y1_8, r1_8, rfl, g1_8, k1_8⟩ := FitsL.cons k1_7
    obtain ⟨y1_9, r1_9, rfl, g1_9, k1_9⟩ := FitsL.cons k1_8
    obtain ⟨y1_10, r1_10, rfl, g1_10, k1_10⟩ := FitsL.cons k1_9
    obtain ⟨y1_11, r1_11, rfl, g1_11, k1_11⟩ := FitsL.cons k1_10
    obtain ⟨y1_12, r1_12, rfl, g1_12, k1_12⟩ := FitsL.cons k1_11
    obtain ⟨y1_13, r1_13, rfl, g1_13, k1_13⟩ := FitsL.cons k1_12
    obtain ⟨y1_14, r1_14, rfl, g1_14, k1_14⟩ := FitsL.cons k1_13
    obtain ⟨y1_15, r1_15, rfl, g1_15, k1_15⟩ := FitsL.cons k1_14
    obtain ⟨y1_16, r1_16, rfl, g1_16, k1_16⟩ := FitsL.cons k1_15
    obtain ⟨y1_17, r1_17, rfl, g1_17, k1_17⟩ := FitsL.cons k1_16
    obtain ⟨y1_18, r1_18, rfl, g1_18, k1_18⟩ := FitsL.cons k1_17
    obtain ⟨y1_19, r1_19, rfl, g1_19, k1_19⟩ := FitsL.cons k1_18
    obtain rfl := FitsL.nil k1_19
    obtain ⟨x0, rfl, h_x0⟩ := g1_0.int_inv
    replace h_x0 := wf_u8 h_x0
    obtain ⟨x1, rfl, h_x1⟩ := g1_1.str_inv
    obtain ⟨x2, rfl, h_x2⟩ := g1_2.int_inv
    replace h_x2 := wf_u64 h_x2
    obtain ⟨x3, rfl, h_x3⟩ := g1_3.int_inv
    replace h_x3 := wf_u64 h_x3
    obtain ⟨x4, rfl⟩ := g1_4.bool_inv
    obtain ⟨x5, rfl⟩ := g1_5.bool_inv
    obtain ⟨x6, rfl, h_x6⟩ := g1_6.str_inv
    obtain ⟨x7, rfl, h_x7⟩ := g1_7.int_inv
    replace h_x7 := wf_i64 h_x7
    obtain ⟨x8, rfl, h_x8⟩ := g1_8.int_inv
    replace h_x8 := wf_i64 h_x8
    obtain ⟨x9, rfl, h_x9⟩ := g1_9.int_inv
    replace h_x9 := wf_u8 h_x9
    obtain ⟨x10, rfl⟩ := g1_10.bool_inv
    obtain ⟨x11, rfl⟩ := g1_11.bool_inv
    obtain ⟨x12, rfl, h_x12⟩ := g1_12.str_inv
    obtain ⟨x13, rfl, h_x13⟩ := g1_13.str_inv
    obtain ⟨x14, rfl, h_x14⟩ := g1_14.str_inv
    obtain ⟨x15, rfl, h_x15⟩ := g1_15.str_inv
    obtain ⟨x16, rfl, h_x16⟩ := g1_16.str_inv
    obtain ⟨x17, rfl, h_x17⟩ := g1_17.int_inv
    replace h_x17 := wf_u8 h_x17
    obtain ⟨x18, rfl, h_x18⟩ := g1_18.int_inv
    replace h_x18 := wf_u64 h_x18
    obtain ⟨x19, rfl, h_x19⟩ := g1_19.int_inv
    replace h_x19 := wf_u64 h_x19
    refine calls_of_law ?_ hrep hG
    rw [show q0 = .coll ⟨.obj, l⟩ from e0]
    rw [show q1 = .agg [.int .u8 x0, .str x1, .int .u64 x2, .int .u64 x3, .bool x4, .bool x5, .str x6, .int .i64 x7, .int .i64 x8, .int .u8 x9, .bool x10, .bool x11, .str x12, .str x13, .str x14, .str x15, .str x16, .int .u8 x17, .int .u64 x18, .int .u64 x19] from e1]
    have := sound_pure (f := 4) (fn := Tryd.f4) (by kernel_rfl) rfl (by kernel_rfl) (by kernel_rfl) (w12_BindNamesF_tr l ⟨x0, x1, x2, x3, x4, x5, x6, x7, x8, x9, x10, x11, x12, x13, x14, x15, x16, x17, x18, x19⟩ (fun o ho => (w_l o ho).fine) ⟨h_x1, h_x3.1, h_x3.2, h_x6, h_x12, h_x13, h_x14, h_x15, h_x16⟩) [] 0
    rw [bindNames] at this
    exact this
theorem lifted (os : Os) (started : os.Started) (H : Type) (enc : TypeId × Value → H) :
    ReturnsInHanded {} Tryd.checked os 4 .any (fun w args => (Rows.bindNamesSpec.pre enc Tryd.prog Tryd.f4 Rows.bindNamesRow.domain false w args ∧ laidMet Tryd.prog laidL w) ∧ sizedMet enc Tryd.prog Tryd.f4 (OpenSpec.ofChange Rows.bindNamesSpec) false w args) (Rows.bindNamesSpec.post enc Tryd.prog Tryd.f4 false true false false) := by
  refine returnsInHanded_of_change_and (C := Tryd.checked) (X := (fun w _ => laidMet Tryd.prog laidL w)) (fun _ _ _ hh h => h.of_heap hh) own started (by kernel_rfl) Tryd.func4
    (ChangeSpec.witness_at (enc := enc) (C := Tryd.checked) (os := os) (X := (fun w _ => laidMet Tryd.prog laidL w)) false (laidWorld os) #[.slice none 0 0, .agg #[.int .u8 0, .string ByteArray.empty, .int .u64 0, .int .u64 0, .bool false, .bool false, .string ByteArray.empty, .int .i64 0, .int .i64 0, .int .u8 0, .bool false, .bool false, .string ByteArray.empty, .string ByteArray.empty, .string ByteArray.empty, .string ByteArray.empty, .string ByteArray.empty, .int .u8 0, .int .u64 0, .int .u64 0]] 8 rfl (by kernel_rfl) (by kernel_rfl) (by kernel_rfl) (by kernel_rfl) (by kernel_rfl) (laid_met os _)) ?_
  intro W base args ds gs before hval0 hW hcnd hsz0 hL _
  have hsz : (DataW.weightsEach Tryd.prog (Tryd.f4.params.toList ++ Rows.bindNamesSpec.plain.varTypes Tryd.prog) (ds ++ gs)).all (· ≤ reachBytes) = true := hsz0
  have hval : ∀ (j : Nat) t v, Tryd.f4.params[j]? = some t → args[j]? = some v → Value.okWide Tryd.prog W .any base t v := hval0
  have hW' := hW
  obtain ⟨p, q, hA0, hV, rfl, hfz, hnd⟩ := hW
  have hA : DataW.TrodAll enc Tryd.prog W 0 (fun _ => true) true Tryd.f4.params.toList args.toList ds p := hA0
  obtain ⟨rfl, rfl⟩ := trodVars_none hV
  rw [List.append_nil, show Rows.bindNamesSpec.plain.varTypes Tryd.prog = [] from rfl, List.append_nil] at hsz
  obtain ⟨zs, hfit, hrep⟩ := open_args (ρ := ⟨fun _ => none, fun _ => none⟩) (r := [(false, [.row .obj]), (true, [.int .u8, .str, .int .u64, .int .u64, .bool, .bool, .str, .int .i64, .int .i64, .int .u8, .bool, .bool, .str, .str, .str, .str, .str, .int .u8, .int .u64, .int .u64])]) (by kernel_rfl) hA (fun j t v h1 h2 => hval j t v (by simpa using h1) (by simpa using h2)) (fun k hk => by simpa using List.all_eq_true.1 hsz k hk)
  have hA' := hA
  rw [Tryd.params4] at hA'
  obtain ⟨v0, vs0, d0, ds0, p0, q0, hargs, rfl, rfl, _, r0⟩ := trodAll_cons hA'
  obtain ⟨v1, vs1, d1, ds1, p1, q1, rfl, rfl, rfl, _, r1⟩ := trodAll_cons r0
  obtain ⟨rfl, rfl, rfl⟩ := trodAll_nil r1
  have hback := fun W' (bel : Below W.heap.size W W') => below_all (enc := enc) (W := W) (W' := W') laidOut bel (by kernel_rfl) hA
  have hw := walk (globs_keep (globs_of hL)) hfit hrep
  rw [show (⟨args.toList⟩ : Array Value) = args by simp] at hw
  clear hA0 hval0 hsz0 hsz
  refine hw.mono fun e W' ⟨he, bel⟩ => ?_
  subst he
  exact ⟨_, rfl, _, _, _, [], _, [], hW', trodAll_mk1 (shut_bool Tryd.underlying4 _), hback W' bel, rfl, bel.frame _, fun h => by cases h⟩
theorem over : Rows.bindNamesRow.holds Tryd.pinned (OpenSpec.ofChange Rows.bindNamesSpec) :=
  OpenClaim.holds_of_wide 4 Tryd.f4 rfl rfl rfl rfl rfl rfl rfl ⟨rfl, rfl, rfl, rfl, rfl⟩ rfl rfl rfl rfl rfl (by kernel_rfl) Tryd.func4 (by kernel_rfl)
    (of_decide_eq_true (by kernel_rfl)) (by unfold Func.isWrapper; first | (rw [if_pos (by decide +kernel)]; kernel_rfl) | (rw [if_neg (by decide +kernel)]; exact ⟨rfl, rfl⟩))
    (fun os started H enc _ => lifted os started H enc)
end Go.Proofs.YtnfmnipckcidlaaDoor.bindNames
namespace Go.Proofs.YtnfmnipckcidlaaDoor

/-- The tied card, for the claim. -/
theorem bindNames_holds : Rows.BindNamesCardSaid :=
  Claim7.holds_tied_plain_at .later [] [.data, .data, .data] true (true, "b275dd01cbdcd9ec4035fd4fe8a76463c80e7e32472db8879c0e447b9182310d") false
    bindNames.over (fun _ h => by cases h) (by kernel_rfl) (fun _ h => by cases h) bindNames_row_tie rfl ⟨rfl, rfl⟩ (by kernel_rfl) rfl
    (fun f fn hf hfn => by
      obtain rfl : f = 4 := Option.some.inj ((show Tryd.prog.funcNamed "wharfinger/wharfingerlaw12.BindNames" = some 4 by kernel_rfl).symm.trans hf) |>.symm
      obtain rfl : fn = Tryd.f4 := (Option.some.inj (Tryd.func4.symm.trans hfn)).symm
      exact ⟨by kernel_rfl, fun j t ht => by
        rw [Tryd.params4] at ht
        have hm : t ∈ [22, 31] := List.mem_of_getElem? (l := [22, 31]) (i := j) (by simpa using ht)
        have hall : ∀ t ∈ [22, 31], Tryd.prog.wantsStandIn t = false := by
          intro t ht
          simp only [List.mem_cons, List.not_mem_nil, or_false] at ht
          rcases ht with ht | ht <;> (subst ht; kernel_rfl)
        exact hall t hm⟩)
    (by kernel_rfl)
#print axioms bindNames_holds
end Go.Proofs.YtnfmnipckcidlaaDoor
