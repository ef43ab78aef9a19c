/- The row CallOnceSaid: true for every input. -/
import Derived.Test.YtpffbkbadnhmmaaDPLWO
import Derived.Test.YtpffbkbadnhmmaaDRowBase2
import Derived.Test.YtpffbkbadnhmmaaDRowBase
set_option linter.unusedVariables false
set_option linter.unusedSimpArgs false
set_option maxRecDepth 100000
namespace Go.Proofs.Ytpffbkbadnhmmaa.callOnce
open Go.ChangeShapes Go.WideShapes Go.ChangeAt Go.RowKit Go.Eng
theorem walk {vs : List Value} {W : World} {zs : List AV} (hG : ∀ w', (∀ k, k < W.heap.size → w'.heap[k]? = W.heap[k]?) → Globs.G w') (hfit : ArgsFit [(false, [.row .deed2]), (true, [.int .u8, .str, .int .u64, .int .i64, .str, .str, .str]), (false, [.row .bool])] zs) (hrep : repL ⟨fun _ => none, fun _ => none⟩ (Z1bb W) noG zs vs) :
  Calls Try.prog 15 ⟨vs⟩ W fun e w' => e = .returned (.bool true) ∧ Below W.heap.size W w' := by
 match zs, hfit with
 | [q0, q1, q2], ⟨⟨a0, f0, e0⟩, ⟨a1, f1, e1⟩, ⟨a2, f2, e2⟩, _⟩ =>
  obtain ⟨y0_0, r0_0, rfl, g0_0, k0_0⟩ := Z20.cons f0
  obtain rfl := Z20.nil k0_0
  obtain ⟨l, rfl, h_l, w_l⟩ := g0_0.deed2s_inv
  obtain ⟨y1_0, r1_0, rfl, g1_0, k1_0⟩ := Z20.cons f1
  obtain ⟨y1_1, r1_1, rfl, g1_1, k1_1⟩ := Z20.cons k1_0
  obtain ⟨y1_2, r1_2, rfl, g1_2, k1_2⟩ := Z20.cons k1_1
  obtain ⟨y1_3, r1_3, rfl, g1_3, k1_3⟩ := Z20.cons k1_2
  obtain ⟨y1_4, r1_4, rfl, g1_4, k1_4⟩ := Z20.cons k1_3
  obtain ⟨y1_5, r1_5, rfl, g1_5, k1_5⟩ := Z20.cons k1_4
  obtain ⟨y1_6, r1_6, rfl, g1_6, k1_6⟩ := Z20.cons k1_5
  obtain rfl := Z20.nil k1_6
  obtain ⟨c0, rfl, h_c0⟩ := g1_0.int_inv
  replace h_c0 := wf_u8 h_c0
  obtain ⟨c1, rfl, h_c1⟩ := g1_1.str_inv
  obtain ⟨c2, rfl, h_c2⟩ := g1_2.int_inv
  replace h_c2 := wf_u64 h_c2
  obtain ⟨c3, rfl, h_c3⟩ := g1_3.int_inv
  replace h_c3 := wf_i64 h_c3
  obtain ⟨c4, rfl, h_c4⟩ := g1_4.str_inv
  obtain ⟨c5, rfl, h_c5⟩ := g1_5.str_inv
  obtain ⟨c6, rfl, h_c6⟩ := g1_6.str_inv
  obtain ⟨y2_0, r2_0, rfl, g2_0, k2_0⟩ := Z20.cons f2
  obtain rfl := Z20.nil k2_0
  obtain ⟨m, rfl, h_m⟩ := g2_0.bools_inv
  refine Z23a ?_ hrep hG
  rw [show q0 = .coll ⟨.deed2, l⟩ from e0]
  rw [show q1 = .agg [.int .u8 c0, .str c1, .int .u64 c2, .int .i64 c3, .str c4, .str c5, .str c6] from e1]
  rw [show q2 = .coll ⟨.bool, m⟩ from e2]
  have := sound_pure (f := 15) (fn := Try.f15) (by kernel_rfl) rfl (by kernel_rfl) (by kernel_rfl) (Z23d l (⟨c0, c1, c2, c3, c4, c5, c6⟩ : XCall) m (Z24e w_l) (cs_of h_c1 h_c4 h_c5 h_c6)) [] 0
  rw [conce_true (Z24e w_l)] at this
  exact this
theorem lifted (os : Os) (started : os.Started) (H : Type) (enc : TypeId × Value → H) :
  ReturnsInHanded {} Try.checked os 15 .any (Rows.callOnceSpec.pre6 enc Try.prog Try.f15 Rows.callOnceRow.domain false) (Rows.callOnceSpec.post enc Try.prog Try.f15 false true false false) := by
 refine returnsInHanded_of_change_sized (C := Try.checked) own started (by kernel_rfl) Try.func15
  (ChangeSpec.witness6 (enc := enc) (C := Try.checked) false ⟨#[], #[.slice none 0 0, .agg #[.int .u8 0, .string ByteArray.empty, .int .u64 0, .int .i64 0, .string ByteArray.empty, .string ByteArray.empty, .string ByteArray.empty], .slice none 0 0], []⟩ 8 (by kernel_rfl) (by kernel_rfl) (by kernel_rfl) (by kernel_rfl)) ?_
 intro W base args ds gs Z146 hval0 hW hcnd hsz0 _
 have hsz : (DataW.weightsEach Try.prog (Try.f15.params.toList ++ Rows.callOnceSpec.plain.varTypes Try.prog) (ds ++ gs)).all (· ≤ reachBytes) = true := hsz0
 have hval : ∀ (j : Nat) t v, Try.f15.params[j]? = some t → args[j]? = some v → Value.okWide Try.prog W .any base t v := hval0
 have hW' := hW
 obtain ⟨p, q, hA0, hV, rfl, hfz, hnd⟩ := hW
 have hA : DataW.TrodAll enc Try.prog W 0 (fun _ => true) true Try.f15.params.toList args.toList ds p := hA0
 obtain ⟨rfl, rfl⟩ := trodVars_none hV
 rw [List.append_nil, show Rows.callOnceSpec.plain.varTypes Try.prog = [] from rfl, List.append_nil] at hsz
 obtain ⟨zs, hfit, hrep⟩ := open_args (ρ := ⟨fun _ => none, fun _ => none⟩) (r := [(false, [.row .deed2]), (true, [.int .u8, .str, .int .u64, .int .i64, .str, .str, .str]), (false, [.row .bool])]) (by kernel_rfl) hA (fun j t v h1 h2 => hval j t v (by simpa using h1) (by simpa using h2)) (fun k hk => by simpa using List.all_eq_true.1 hsz k hk)
 have hA' := hA
 rw [Try.params15] at hA'
 obtain ⟨v0, vs0, d0, ds0, p0, q0, hargs, rfl, rfl, _, r0⟩ := trodAll_cons hA'
 obtain ⟨v1, vs1, d1, ds1, p1, q1, rfl, rfl, rfl, _, r1⟩ := trodAll_cons r0
 obtain ⟨v2, vs2, d2, ds2, p2, q2, rfl, rfl, rfl, _, r2⟩ := trodAll_cons r1
 obtain ⟨rfl, rfl, rfl⟩ := trodAll_nil r2
 have hback := fun W' (bel : Below W.heap.size W W') => below_all (enc := enc) (W := W) (W' := W') laidOut bel (by kernel_rfl) hA
 have hw := walk (fun _ _ => trivial) hfit hrep
 rw [show (⟨args.toList⟩ : Array Value) = args by simp] at hw
 clear hA0 hval0 hsz0 hsz
 refine hw.mono fun e W' ⟨he, bel⟩ => ?_
 subst he
 exact ⟨_, rfl, _, _, _, [], _, [], hW', trodAll_mk1 (shut_bool Try.underlying4 _), hback W' bel, rfl, bel.frame _, fun h => by cases h⟩
theorem over : Rows.callOnceRow.holds Try.pinned (OpenSpec.ofChange Rows.callOnceSpec) :=
 OpenClaim.holds_of_wide 15 Try.f15 rfl rfl rfl rfl rfl rfl rfl ⟨rfl, rfl, rfl, rfl, rfl⟩ rfl rfl rfl rfl rfl (by kernel_rfl) Try.func15 (by unfold joinedFacts; rw [enter_ok, lifts_ok, make_ok]; refine Eq.trans ?_ (Eq.refl true); kernel_rfl)
  (of_decide_eq_true (by kernel_rfl)) (by unfold Func.isWrapper; first | (rw [if_pos (by decide +kernel)]; kernel_rfl) | (rw [if_neg (by decide +kernel)]; exact ⟨rfl, rfl⟩))
  (fun os started H enc _ => lifted os started H enc)
end Go.Proofs.Ytpffbkbadnhmmaa.callOnce
namespace Go.Proofs.Ytpffbkbadnhmmaa

theorem callOnce_holds : Rows.CallOnceSaid := callOnce.over
#print axioms callOnce_holds
end Go.Proofs.Ytpffbkbadnhmmaa
