/- The row BindRightSaid: true for every input. -/
import Derived.Test.YtnfmnipckcidlaaDoorDPL12
import Derived.Test.YtnfmnipckcidlaaDoorDRowBase
import Derived.Test.YtnfmnipckcidlaaDoorCards
import Derived.Test.YtnfmnipckcidlaaDoorTie
set_option linter.unusedVariables false
set_option linter.unusedSimpArgs false
set_option maxRecDepth 100000
namespace Go.Proofs.YtnfmnipckcidlaaDoor.bindRight
open Go.ChangeShapes Go.WideShapes Go.ChangeAt Go.RowKit Go.Eng
theorem walk {vs : List Value} {W : World} {zs : List AV} (hG : ∀ w', (∀ k, k < W.heap.size → w'.heap[k]? = W.heap[k]?) → Globs.G w') (hfit : ArgsFit [(false, [.row .obj]), (false, [.int .u64]), (true, [.int .u8, .str, .int .u8, .str, .int .u64, .int .i64, .str, .str, .str, .bool, .int .i64, .int .i64, .str, .int .u64])] zs) (hrep : repL ⟨fun _ => none, fun _ => none⟩ (memOf W) noG zs vs) :
    Calls Tryd.prog 10 ⟨vs⟩ W fun e w' => e = .returned (.bool true) ∧ Below W.heap.size W w' := by
  match zs, hfit with
  | [q0, q1, q2], ⟨⟨a0, f0, e0⟩, ⟨a1, f1, e1⟩, ⟨a2, f2, e2⟩, _⟩ =>
    obtain ⟨y0_0, r0_0, rfl, g0_0, k0_0⟩ := FitsL.cons f0
    obtain rfl := FitsL.nil k0_0
    obtain ⟨l, rfl, h_l, w_l⟩ := g0_0.objs_inv
    obtain ⟨y1_0, r1_0, rfl, g1_0, k1_0⟩ := FitsL.cons f1
    obtain rfl := FitsL.nil k1_0
    obtain ⟨v, rfl, h_v⟩ := g1_0.int_inv
    replace h_v := wf_u64 h_v
    obtain ⟨y2_0, r2_0, rfl, g2_0, k2_0⟩ := FitsL.cons f2
    obtain ⟨y2_1, r2_1, rfl, g2_1, k2_1⟩ := FitsL.cons k2_0
    obtain ⟨y2_2, r2_2, rfl, g2_2, k2_2⟩ := FitsL.cons k2_1
    obtain ⟨y2_3, r2_3, rfl, g2_3, k2_3⟩ := FitsL.cons k2_2
    obtain ⟨y2_4, r2_4, rfl, g2_4, k2_4⟩ := FitsL.cons k2_3
    obtain ⟨y2_5, r2_5, rfl, g2_5, k2_5⟩ := FitsL.cons k2_4
    obtain ⟨y2_6, r2_6, rfl, g2_6, k2_6⟩ := FitsL.cons k2_5
    obtain ⟨y2_7, r2_7, rfl, g2_7, k2_7⟩ := FitsL.cons k2_6
    obtain ⟨y2_8, r2_8, rfl, g2_8, k2_8⟩ := FitsL.cons k2_7
    obtain ⟨y2_9, r2_9, rfl, g2_9, k2_9⟩ := FitsL.cons k2_8
    obtain ⟨y2_10, r2_10, rfl, g2_10, k2_10⟩ := FitsL.cons k2_9
    obtain ⟨y2_11, r2_11, rfl, g2_11, k2_11⟩ := FitsL.cons k2_10
    obtain ⟨y2_12, r2_12, rfl, g2_12, k2_12⟩ := FitsL.cons k2_11
    obtain ⟨y2_13, r2_13, rfl, g2_13, k2_13⟩ := FitsL.cons k2_12
    obtain rfl := FitsL.nil k2_13
    obtain ⟨x0, rfl, h_x0⟩ := g2_0.int_inv
    replace h_x0 := wf_u8 h_x0
    obtain ⟨x1, rfl, h_x1⟩ := g2_1.str_inv
    obtain ⟨x2, rfl, h_x2⟩ := g2_2.int_inv
    replace h_x2 := wf_u8 h_x2
    obtain ⟨x3, rfl, h_x3⟩ := g2_3.str_inv
    obtain ⟨x4, rfl, h_x4⟩ := g2_4.int_inv
    replace h_x4 := wf_u64 h_x4
    obtain ⟨x5, rfl, h_x5⟩ := g2_5.int_inv
    replace h_x5 := wf_i64 h_x5
    obtain ⟨x6, rfl, h_x6⟩ := g2_6.str_inv
    obtain ⟨x7, rfl, h_x7⟩ := g2_7.str_inv
    obtain ⟨x8, rfl, h_x8⟩ := g2_8.str_inv
    obtain ⟨x9, rfl⟩ := g2_9.bool_inv
    obtain ⟨x10, rfl, h_x10⟩ := g2_10.int_inv
    replace h_x10 := wf_i64 h_x10
    obtain ⟨x11, rfl, h_x11⟩ := g2_11.int_inv
    replace h_x11 := wf_i64 h_x11
    obtain ⟨x12, rfl, h_x12⟩ := g2_12.str_inv
    obtain ⟨x13, rfl, h_x13⟩ := g2_13.int_inv
    replace h_x13 := wf_u64 h_x13
    refine calls_of_law ?_ hrep hG
    rw [show q0 = .coll ⟨.obj, l⟩ from e0]
    rw [show q1 = .int .u64 v from e1]
    rw [show q2 = .agg [.int .u8 x0, .str x1, .int .u8 x2, .str x3, .int .u64 x4, .int .i64 x5, .str x6, .str x7, .str x8, .bool x9, .int .i64 x10, .int .i64 x11, .str x12, .int .u64 x13] from e2]
    have := sound_pure (f := 10) (fn := Tryd.f10) (by kernel_rfl) rfl (by kernel_rfl) (by kernel_rfl) (w12_BindRightF_tr l v x0 x1 x2 x3 x4 x5 x6 x7 x8 x9 x10 x11 x12 x13 (fun o ho => (w_l o ho).fine) h_x1 h_x3 h_x6) [] 0
    rw [bindRight] at this
    exact this
theorem lifted (os : Os) (started : os.Started) (H : Type) (enc : TypeId × Value → H) :
    ReturnsInHanded {} Tryd.checked os 10 .any (fun w args => (Rows.bindRightSpec.pre enc Tryd.prog Tryd.f10 Rows.bindRightRow.domain false w args ∧ laidMet Tryd.prog laidL w) ∧ sizedMet enc Tryd.prog Tryd.f10 (OpenSpec.ofChange Rows.bindRightSpec) false w args) (Rows.bindRightSpec.post enc Tryd.prog Tryd.f10 false true false false) := by
  refine returnsInHanded_of_change_and (C := Tryd.checked) (X := (fun w _ => laidMet Tryd.prog laidL w)) (fun _ _ _ hh h => h.of_heap hh) own started (by kernel_rfl) Tryd.func10
    (ChangeSpec.witness_at (enc := enc) (C := Tryd.checked) (os := os) (X := (fun w _ => laidMet Tryd.prog laidL w)) false (laidWorld os) #[.slice none 0 0, .int .u64 0, .agg #[.int .u8 0, .string ByteArray.empty, .int .u8 0, .string ByteArray.empty, .int .u64 0, .int .i64 0, .string ByteArray.empty, .string ByteArray.empty, .string ByteArray.empty, .bool false, .int .i64 0, .int .i64 0, .string ByteArray.empty, .int .u64 0]] 8 rfl (by kernel_rfl) (by kernel_rfl) (by kernel_rfl) (by kernel_rfl) (by kernel_rfl) (laid_met os _)) ?_
  intro W base args ds gs before hval0 hW hcnd hsz0 hL _
  have hsz : (DataW.weightsEach Tryd.prog (Tryd.f10.params.toList ++ Rows.bindRightSpec.plain.varTypes Tryd.prog) (ds ++ gs)).all (· ≤ reachBytes) = true := hsz0
  have hval : ∀ (j : Nat) t v, Tryd.f10.params[j]? = some t → args[j]? = some v → Value.okWide Tryd.prog W .any base t v := hval0
  have hW' := hW
  obtain ⟨p, q, hA0, hV, rfl, hfz, hnd⟩ := hW
  have hA : DataW.TrodAll enc Tryd.prog W 0 (fun _ => true) true Tryd.f10.params.toList args.toList ds p := hA0
  obtain ⟨rfl, rfl⟩ := trodVars_none hV
  rw [List.append_nil, show Rows.bindRightSpec.plain.varTypes Tryd.prog = [] from rfl, List.append_nil] at hsz
  obtain ⟨zs, hfit, hrep⟩ := open_args (ρ := ⟨fun _ => none, fun _ => none⟩) (r := [(false, [.row .obj]), (false, [.int .u64]), (true, [.int .u8, .str, .int .u8, .str, .int .u64, .int .i64, .str, .str, .str, .bool, .int .i64, .int .i64, .str, .int .u64])]) (by kernel_rfl) hA (fun j t v h1 h2 => hval j t v (by simpa using h1) (by simpa using h2)) (fun k hk => by simpa using List.all_eq_true.1 hsz k hk)
  have hA' := hA
  rw [Tryd.params10] at hA'
  obtain ⟨v0, vs0, d0, ds0, p0, q0, hargs, rfl, rfl, _, r0⟩ := trodAll_cons hA'
  obtain ⟨v1, vs1, d1, ds1, p1, q1, rfl, rfl, rfl, _, r1⟩ := trodAll_cons r0
  obtain ⟨v2, vs2, d2, ds2, p2, q2, rfl, rfl, rfl, _, r2⟩ := trodAll_cons r1
  obtain ⟨rfl, rfl, rfl⟩ := trodAll_nil r2
  have hback := fun W' (bel : Below W.heap.size W W') => below_all (enc := enc) (W := W) (W' := W') laidOut bel (by kernel_rfl) hA
  have hw := walk (globs_keep (globs_of hL)) hfit hrep
  rw [show (⟨args.toList⟩ : Array Value) = args by simp] at hw
  clear hA0 hval0 hsz0 hsz
  refine hw.mono fun e W' ⟨he, bel⟩ => ?_
  subst he
  exact ⟨_, rfl, _, _, _, [], _, [], hW', trodAll_mk1 (shut_bool Tryd.underlying4 _), hback W' bel, rfl, bel.frame _, fun h => by cases h⟩
theorem over : Rows.bindRightRow.holds Tryd.pinned (OpenSpec.ofChange Rows.bindRightSpec) :=
  OpenClaim.holds_of_wide 10 Tryd.f10 rfl rfl rfl rfl rfl rfl rfl ⟨rfl, rfl, rfl, rfl, rfl⟩ rfl rfl rfl rfl rfl (by kernel_rfl) Tryd.func10 (by kernel_rfl)
    (of_decide_eq_true (by kernel_rfl)) (by unfold Func.isWrapper; first | (rw [if_pos (by decide +kernel)]; kernel_rfl) | (rw [if_neg (by decide +kernel)]; exact ⟨rfl, rfl⟩))
    (fun os started H enc _ => lifted os started H enc)
end Go.Proofs.YtnfmnipckcidlaaDoor.bindRight
namespace Go.Proofs.YtnfmnipckcidlaaDoor

/-- The tied card, for the claim. -/
theorem bindRight_holds : Rows.BindRightCardSaid :=
  Claim7.holds_tied_plain_at .later [] [.data, .data, .data] true (true, "b275dd01cbdcd9ec4035fd4fe8a76463c80e7e32472db8879c0e447b9182310d") false
    bindRight.over (fun _ h => by cases h) (by kernel_rfl) (fun _ h => by cases h) bindRight_row_tie rfl ⟨rfl, rfl⟩ (by kernel_rfl) rfl
    (fun f fn hf hfn => by
      obtain rfl : f = 10 := Option.some.inj ((show Tryd.prog.funcNamed "wharfinger/wharfingerlaw12.BindRight" = some 10 by kernel_rfl).symm.trans hf) |>.symm
      obtain rfl : fn = Tryd.f10 := (Option.some.inj (Tryd.func10.symm.trans hfn)).symm
      exact ⟨by kernel_rfl, fun j t ht => by
        rw [Tryd.params10] at ht
        have hm : t ∈ [22, 23, 54] := List.mem_of_getElem? (l := [22, 23, 54]) (i := j) (by simpa using ht)
        have hall : ∀ t ∈ [22, 23, 54], Tryd.prog.wantsStandIn t = false := by
          intro t ht
          simp only [List.mem_cons, List.not_mem_nil, or_false] at ht
          rcases ht with ht | ht | ht <;> (subst ht; kernel_rfl)
        exact hall t hm⟩)
    (by kernel_rfl)
#print axioms bindRight_holds
end Go.Proofs.YtnfmnipckcidlaaDoor
