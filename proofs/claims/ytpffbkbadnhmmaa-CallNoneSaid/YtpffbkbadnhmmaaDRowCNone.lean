/- The row CallNoneSaid: true for every input. -/
import Derived.Test.YtpffbkbadnhmmaaDPLWN
import Derived.Test.YtpffbkbadnhmmaaDRowBase2
import Derived.Test.YtpffbkbadnhmmaaDRowBase
set_option linter.unusedVariables false
set_option linter.unusedSimpArgs false
set_option maxRecDepth 100000
namespace Go.Proofs.Ytpffbkbadnhmmaa.callNone
open Go.ChangeShapes Go.WideShapes Go.ChangeAt Go.RowKit Go.Eng
theorem walk {vs : List Value} {W : World} {zs : List AV} (hG : ∀ w', (∀ k, k < W.heap.size → w'.heap[k]? = W.heap[k]?) → Globs.G w') (hfit : ArgsFit [(true, [.int .u8, .str, .int .u64, .int .i64, .str, .str, .str, .int .u8, .int .u64, .bool, .int .i64])] zs) (hrep : repL ⟨fun _ => none, fun _ => none⟩ (memOf W) noG zs vs) :
  Calls Try.prog 17 ⟨vs⟩ W fun e w' => e = .returned (.bool true) ∧ Below W.heap.size W w' := by
 match zs, hfit with
 | [q0], ⟨⟨a0, f0, e0⟩, _⟩ =>
  obtain ⟨y0_0, r0_0, rfl, g0_0, k0_0⟩ := FitsL.cons f0
  obtain ⟨y0_1, r0_1, rfl, g0_1, k0_1⟩ := FitsL.cons k0_0
  obtain ⟨y0_2, r0_2, rfl, g0_2, k0_2⟩ := FitsL.cons k0_1
  obtain ⟨y0_3, r0_3, rfl, g0_3, k0_3⟩ := FitsL.cons k0_2
  obtain ⟨y0_4, r0_4, rfl, g0_4, k0_4⟩ := FitsL.cons k0_3
  obtain ⟨y0_5, r0_5, rfl, g0_5, k0_5⟩ := FitsL.cons k0_4
  obtain ⟨y0_6, r0_6, rfl, g0_6, k0_6⟩ := FitsL.cons k0_5
  obtain ⟨y0_7, r0_7, rfl, g0_7, k0_7⟩ := FitsL.cons k0_6
  obtain ⟨y0_8, r0_8, rfl, g0_8, k0_8⟩ := FitsL.cons k0_7
  obtain ⟨y0_9, r0_9, rfl, g0_9, k0_9⟩ := FitsL.cons k0_8
  obtain ⟨y0_10, r0_10, rfl, g0_10, k0_10⟩ := FitsL.cons k0_9
  obtain rfl := FitsL.nil k0_10
  obtain ⟨c0, rfl, h_c0⟩ := g0_0.int_inv
  replace h_c0 := wf_u8 h_c0
  obtain ⟨c1, rfl, h_c1⟩ := g0_1.str_inv
  obtain ⟨c2, rfl, h_c2⟩ := g0_2.int_inv
  replace h_c2 := wf_u64 h_c2
  obtain ⟨c3, rfl, h_c3⟩ := g0_3.int_inv
  replace h_c3 := wf_i64 h_c3
  obtain ⟨c4, rfl, h_c4⟩ := g0_4.str_inv
  obtain ⟨c5, rfl, h_c5⟩ := g0_5.str_inv
  obtain ⟨c6, rfl, h_c6⟩ := g0_6.str_inv
  obtain ⟨c7, rfl, h_c7⟩ := g0_7.int_inv
  replace h_c7 := wf_u8 h_c7
  obtain ⟨c8, rfl, h_c8⟩ := g0_8.int_inv
  replace h_c8 := wf_u64 h_c8
  obtain ⟨c9, rfl⟩ := g0_9.bool_inv
  obtain ⟨c10, rfl, h_c10⟩ := g0_10.int_inv
  replace h_c10 := wf_i64 h_c10
  refine calls_of_law ?_ hrep hG
  rw [show q0 = .agg [.int .u8 c0, .str c1, .int .u64 c2, .int .i64 c3, .str c4, .str c5, .str c6, .int .u8 c7, .int .u64 c8, .bool c9, .int .i64 c10] from e0]
  have := sound_pure (f := 17) (fn := Try.f17) (by kernel_rfl) rfl (by kernel_rfl) (by kernel_rfl) (Z153 (⟨(⟨c0, c1, c2, c3, c4, c5, c6⟩ : XCall), c7, c8, c9, c10⟩ : XDeed2) ⟨(cs_of h_c1 h_c4 h_c5 h_c6), h_c7.1⟩) [] 0
  rw [cnone_true] at this
  exact this
theorem lifted (os : Os) (started : os.Started) (H : Type) (enc : TypeId × Value → H) :
  ReturnsInHanded {} Try.checked os 17 .any (Rows.callNoneSpec.pre6 enc Try.prog Try.f17 Rows.callNoneRow.domain false) (Rows.callNoneSpec.post enc Try.prog Try.f17 false true false false) := by
 refine returnsInHanded_of_change_sized (C := Try.checked) own started (by kernel_rfl) Try.func17
  (ChangeSpec.witness6 (enc := enc) (C := Try.checked) false ⟨#[], #[.agg #[.int .u8 0, .string ByteArray.empty, .int .u64 0, .int .i64 0, .string ByteArray.empty, .string ByteArray.empty, .string ByteArray.empty, .int .u8 0, .int .u64 0, .bool false, .int .i64 0]], []⟩ 8 (by kernel_rfl) (by kernel_rfl) (by kernel_rfl) (by kernel_rfl)) ?_
 intro W base args ds gs before hval0 hW hcnd hsz0 _
 have hsz : (DataW.weightsEach Try.prog (Try.f17.params.toList ++ Rows.callNoneSpec.plain.varTypes Try.prog) (ds ++ gs)).all (· ≤ reachBytes) = true := hsz0
 have hval : ∀ (j : Nat) t v, Try.f17.params[j]? = some t → args[j]? = some v → Value.okWide Try.prog W .any base t v := hval0
 have hW' := hW
 obtain ⟨p, q, hA0, hV, rfl, hfz, hnd⟩ := hW
 have hA : DataW.TrodAll enc Try.prog W 0 (fun _ => true) true Try.f17.params.toList args.toList ds p := hA0
 obtain ⟨rfl, rfl⟩ := trodVars_none hV
 rw [List.append_nil, show Rows.callNoneSpec.plain.varTypes Try.prog = [] from rfl, List.append_nil] at hsz
 obtain ⟨zs, hfit, hrep⟩ := open_args (ρ := ⟨fun _ => none, fun _ => none⟩) (r := [(true, [.int .u8, .str, .int .u64, .int .i64, .str, .str, .str, .int .u8, .int .u64, .bool, .int .i64])]) (by kernel_rfl) hA (fun j t v h1 h2 => hval j t v (by simpa using h1) (by simpa using h2)) (fun k hk => by simpa using List.all_eq_true.1 hsz k hk)
 have hA' := hA
 rw [Try.params17] at hA'
 obtain ⟨v0, vs0, d0, ds0, p0, q0, hargs, rfl, rfl, _, r0⟩ := trodAll_cons hA'
 obtain ⟨rfl, rfl, rfl⟩ := trodAll_nil r0
 have hback := fun W' (bel : Below W.heap.size W W') => below_all (enc := enc) (W := W) (W' := W') laidOut bel (by kernel_rfl) hA
 have hw := walk (fun _ _ => trivial) hfit hrep
 rw [show (⟨args.toList⟩ : Array Value) = args by simp] at hw
 clear hA0 hval0 hsz0 hsz
 refine hw.mono fun e W' ⟨he, bel⟩ => ?_
 subst he
 exact ⟨_, rfl, _, _, _, [], _, [], hW', trodAll_mk1 (shut_bool Try.underlying4 _), hback W' bel, rfl, bel.frame _, fun h => by cases h⟩
theorem over : Rows.callNoneRow.holds Try.pinned (OpenSpec.ofChange Rows.callNoneSpec) :=
 OpenClaim.holds_of_wide 17 Try.f17 rfl rfl rfl rfl rfl rfl rfl ⟨rfl, rfl, rfl, rfl, rfl⟩ rfl rfl rfl rfl rfl (by kernel_rfl) Try.func17 (by unfold joinedFacts; rw [enter_ok, lifts_ok, make_ok]; refine Eq.trans ?_ (Eq.refl true); kernel_rfl)
  (of_decide_eq_true (by kernel_rfl)) (by unfold Func.isWrapper; first | (rw [if_pos (by decide +kernel)]; kernel_rfl) | (rw [if_neg (by decide +kernel)]; exact ⟨rfl, rfl⟩))
  (fun os started H enc _ => lifted os started H enc)
end Go.Proofs.Ytpffbkbadnhmmaa.callNone
namespace Go.Proofs.Ytpffbkbadnhmmaa

theorem callNone_holds : Rows.CallNoneSaid := callNone.over
#print axioms callNone_holds
end Go.Proofs.Ytpffbkbadnhmmaa
