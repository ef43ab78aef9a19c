/- The row TopMarksSaid: true for every input. -/
import Derived.Test.YtbjifeobhenkfaaDPL1
import Derived.Test.YtbjifeobhenkfaaDRowBase
set_option linter.unusedVariables false
set_option linter.unusedSimpArgs false
set_option maxRecDepth 100000
namespace Go.Proofs.Ytbjifeobhenkfaa.topMarks
open Go.ChangeShapes Go.WideShapes Go.ChangeAt Go.RowKit Go.Eng
theorem walk {vs : List Value} {W : World} {zs : List AV} (hG : ∀ w', (∀ k, k < W.heap.size → w'.heap[k]? = W.heap[k]?) → Globs.G w') (hfit : ArgsFit [(true, [.int .u8, .str, .int .u64, .int .u64, .bool, .bool, .str, .int .i64, .int .i64, .int .u8, .bool, .bool, .str, .str, .str, .str, .str, .int .u8, .int .u64, .int .u64])] zs) (hrep : repL ⟨fun _ => none, fun _ => none⟩ (memOf W) noG zs vs) :
  Calls Try.prog 4 ⟨vs⟩ W fun e w' => e = .returned (.bool true) ∧ Below W.heap.size W w' := by
 match zs, hfit with
 | [q0], ⟨⟨a0, f0, e0⟩, _⟩ =>
  obtain ⟨y0_0, r0_0, rfl, g0_0, k0_0⟩ := FitsL.cons f0
  obtain ⟨y0_1, r0_1, rfl, g0_1, k0_1⟩ := FitsL.cons k0_0
  obtain ⟨y0_2, r0_2, rfl, g0_2, k0_2⟩ := FitsL.cons k0_1
  obtain ⟨y0_3, r0_3, rfl, g0_3, k0_3⟩ := FitsL.cons k0_2
  obtain ⟨y0_4, r0_4, rfl, g0_4, k0_4⟩ := FitsL.cons k0_3
  obtain ⟨y0_5, r0_5, rfl, g0_5, k0_5⟩ := FitsL.cons k0_4
  obtain ⟨y0_6, r0_6, rfl, g0_6, k0_6⟩ := FitsL.cons k0_5
  obtain ⟨y0_7, r0_7, rfl, g0_7, k0_7⟩ := FitsL.cons k0_6
  obtain ⟨y0_8, r0_8, rfl, g0_8, k0_8⟩ := FitsL.cons k0_7
  obtain ⟨y0_9, r0_9, rfl, g0_9, k0_9⟩ := FitsL.cons k0_8
  obtain ⟨y0_10, r0_10, rfl, g0_10, k0_10⟩ := FitsL.cons k0_9
  obtain ⟨y0_11, r0_11, rfl, g0_11, k0_11⟩ := FitsL.cons k0_10
  obtain ⟨y0_12, r0_12, rfl, g0_12, k0_12⟩ := FitsL.cons k0_11
  obtain ⟨y0_13, r0_13, rfl, g0_13, k0_13⟩ := FitsL.cons k0_12
  obtain ⟨y0_14, r0_14, rfl, g0_14, k0_14⟩ := FitsL.cons k0_13
  obtain ⟨y0_15, r0_15, rfl, g0_15, k0_15⟩ := FitsL.cons k0_14
  obtain ⟨y0_16, r0_16, rfl, g0_16, k0_16⟩ := FitsL.cons k0_15
  obtain ⟨y0_17, r0_17, rfl, g0_17, k0_17⟩ := FitsL.cons k0_16
  obtain ⟨y0_18, r0_18, rfl, g0_18, k0_18⟩ := FitsL.cons k0_17
  obtain ⟨y0_19, r0_19, rfl, g0_19, k0_19⟩ := FitsL.cons k0_18
  obtain rfl := FitsL.nil k0_19
  obtain ⟨x0, rfl, h_x0⟩ := g0_0.int_inv
  replace h_x0 := wf_u8 h_x0
  obtain ⟨x1, rfl, h_x1⟩ := g0_1.str_inv
  obtain ⟨x2, rfl, h_x2⟩ := g0_2.int_inv
  replace h_x2 := wf_u64 h_x2
  obtain ⟨x3, rfl, h_x3⟩ := g0_3.int_inv
  replace h_x3 := wf_u64 h_x3
  obtain ⟨x4, rfl⟩ := g0_4.bool_inv
  obtain ⟨x5, rfl⟩ := g0_5.bool_inv
  obtain ⟨x6, rfl, h_x6⟩ := g0_6.str_inv
  obtain ⟨x7, rfl, h_x7⟩ := g0_7.int_inv
  replace h_x7 := wf_i64 h_x7
  obtain ⟨x8, rfl, h_x8⟩ := g0_8.int_inv
  replace h_x8 := wf_i64 h_x8
  obtain ⟨x9, rfl, h_x9⟩ := g0_9.int_inv
  replace h_x9 := wf_u8 h_x9
  obtain ⟨x10, rfl⟩ := g0_10.bool_inv
  obtain ⟨x11, rfl⟩ := g0_11.bool_inv
  obtain ⟨x12, rfl, h_x12⟩ := g0_12.str_inv
  obtain ⟨x13, rfl, h_x13⟩ := g0_13.str_inv
  obtain ⟨x14, rfl, h_x14⟩ := g0_14.str_inv
  obtain ⟨x15, rfl, h_x15⟩ := g0_15.str_inv
  obtain ⟨x16, rfl, h_x16⟩ := g0_16.str_inv
  obtain ⟨x17, rfl, h_x17⟩ := g0_17.int_inv
  replace h_x17 := wf_u8 h_x17
  obtain ⟨x18, rfl, h_x18⟩ := g0_18.int_inv
  replace h_x18 := wf_u64 h_x18
  obtain ⟨x19, rfl, h_x19⟩ := g0_19.int_inv
  replace h_x19 := wf_u64 h_x19
  refine calls_of_law ?_ hrep hG
  rw [show q0 = .agg [.int .u8 x0, .str x1, .int .u64 x2, .int .u64 x3, .bool x4, .bool x5, .str x6, .int .i64 x7, .int .i64 x8, .int .u8 x9, .bool x10, .bool x11, .str x12, .str x13, .str x14, .str x15, .str x16, .int .u8 x17, .int .u64 x18, .int .u64 x19] from e0]
  have := sound_pure (f := 4) (fn := Try.f4) (by kernel_rfl) rfl (by kernel_rfl) (by kernel_rfl) (t_TopMarksF_tr (⟨x0, x1, x2, x3, x4, x5, x6, x7, x8, x9, x10, x11, x12, x13, x14, x15, x16, x17, x18, x19⟩ : XObj) ⟨(Nat.le_trans h_x1 (by decide)), h_x3.1, h_x3.2, (Nat.le_trans h_x6 (by decide)), (Nat.le_trans h_x12 (by decide)), (Nat.le_trans h_x13 (by decide)), (Nat.le_trans h_x14 (by decide)), (Nat.le_trans h_x15 (by decide)), (Nat.le_trans h_x16 (by decide))⟩ ⟨h_x2, h_x3, h_x18, h_x19⟩) [] 0
  rw [marks_true (o := (⟨x0, x1, x2, x3, x4, x5, x6, x7, x8, x9, x10, x11, x12, x13, x14, x15, x16, x17, x18, x19⟩ : XObj)) ⟨h_x2, h_x3, h_x18, h_x19⟩] at this
  exact this
theorem lifted (os : Os) (started : os.Started) (H : Type) (enc : TypeId × Value → H) :
  ReturnsInHanded {} Try.checked os 4 .any (Rows.topMarksSpec.pre6 enc Try.prog Try.f4 Rows.topMarksRow.domain false) (Rows.topMarksSpec.post enc Try.prog Try.f4 false true false false) := by
 refine returnsInHanded_of_change_sized (C := Try.checked) own started (by kernel_rfl) Try.func4
  (ChangeSpec.witness6 (enc := enc) (C := Try.checked) false ⟨#[], #[.agg #[.int .u8 0, .string ByteArray.empty, .int .u64 0, .int .u64 0, .bool false, .bool false, .string ByteArray.empty, .int .i64 0, .int .i64 0, .int .u8 0, .bool false, .bool false, .string ByteArray.empty, .string ByteArray.empty, .string ByteArray.empty, .string ByteArray.empty, .string ByteArray.empty, .int .u8 0, .int .u64 0, .int .u64 0]], []⟩ 8 (by kernel_rfl) (by kernel_rfl) (by kernel_rfl) (by kernel_rfl)) ?_
 intro W base args ds gs before hval0 hW hcnd hsz0 _
 have hsz : (DataW.weightsEach Try.prog (Try.f4.params.toList ++ Rows.topMarksSpec.plain.varTypes Try.prog) (ds ++ gs)).all (· ≤ reachBytes) = true := hsz0
 have hval : ∀ (j : Nat) t v, Try.f4.params[j]? = some t → args[j]? = some v → Value.okWide Try.prog W .any base t v := hval0
 have hW' := hW
 obtain ⟨p, q, hA0, hV, rfl, hfz, hnd⟩ := hW
 have hA : DataW.TrodAll enc Try.prog W 0 (fun _ => true) true Try.f4.params.toList args.toList ds p := hA0
 obtain ⟨rfl, rfl⟩ := trodVars_none hV
 rw [List.append_nil, show Rows.topMarksSpec.plain.varTypes Try.prog = [] from rfl, List.append_nil] at hsz
 obtain ⟨zs, hfit, hrep⟩ := open_args (ρ := ⟨fun _ => none, fun _ => none⟩) (r := [(true, [.int .u8, .str, .int .u64, .int .u64, .bool, .bool, .str, .int .i64, .int .i64, .int .u8, .bool, .bool, .str, .str, .str, .str, .str, .int .u8, .int .u64, .int .u64])]) (by kernel_rfl) hA (fun j t v h1 h2 => hval j t v (by simpa using h1) (by simpa using h2)) (fun k hk => by simpa using List.all_eq_true.1 hsz k hk)
 have hA' := hA
 rw [Try.params4] at hA'
 obtain ⟨v0, vs0, d0, ds0, p0, q0, hargs, rfl, rfl, _, r0⟩ := trodAll_cons hA'
 obtain ⟨rfl, rfl, rfl⟩ := trodAll_nil r0
 have hback := fun W' (bel : Below W.heap.size W W') => below_all (enc := enc) (W := W) (W' := W') laidOut bel (by kernel_rfl) hA
 have hw := walk (fun _ _ => trivial) hfit hrep
 rw [show (⟨args.toList⟩ : Array Value) = args by simp] at hw
 clear hA0 hval0 hsz0 hsz
 refine hw.mono fun e W' ⟨he, bel⟩ => ?_
 subst he
 exact ⟨_, rfl, _, _, _, [], _, [], hW', trodAll_mk1 (shut_bool Try.underlying4 _), hback W' bel, rfl, bel.frame _, fun h => by cases h⟩
theorem over : Rows.topMarksRow.holds Try.pinned (OpenSpec.ofChange Rows.topMarksSpec) :=
 OpenClaim.holds_of_wide 4 Try.f4 rfl rfl rfl rfl rfl rfl rfl ⟨rfl, rfl, rfl, rfl, rfl⟩ rfl rfl rfl rfl rfl (by kernel_rfl) Try.func4 (by unfold joinedFacts; rw [enter_ok, lifts_ok, make_ok]; refine Eq.trans ?_ (Eq.refl true); kernel_rfl)
  (of_decide_eq_true (by kernel_rfl)) (by unfold Func.isWrapper; first | (rw [if_pos (by decide +kernel)]; kernel_rfl) | (rw [if_neg (by decide +kernel)]; exact ⟨rfl, rfl⟩))
  (fun os started H enc _ => lifted os started H enc)
end Go.Proofs.Ytbjifeobhenkfaa.topMarks
namespace Go.Proofs.Ytbjifeobhenkfaa

theorem topMarks_holds : Rows.TopMarksSaid := topMarks.over
#print axioms topMarks_holds
end Go.Proofs.Ytbjifeobhenkfaa
