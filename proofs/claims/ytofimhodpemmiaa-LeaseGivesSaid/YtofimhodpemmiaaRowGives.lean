/- The row LeaseGivesSaid: true for every input. -/
import Derived.Test.YtofimhodpemmiaaPureGives
import Derived.Test.YtofimhodpemmiaaRows
import Derived.Test.YtofimhodpemmiaaEng19
import Derived.WalkKit
import Derived.ProofKit
import Derived.OpenShut
import Derived.ShutString
import Derived.ChangeOld
import Derived.Below
import Derived.SizedLaws
set_option maxRecDepth 100000
namespace Go.Proofs.Ytofimhodpemmiaa.leaseGives
open Go.ChangeShapes Go.WideShapes Go.ChangeAt Go.RowKit Go.Eng
theorem own : ownKnob Try.prog.godebug = none := by kernel_rfl
theorem laidOut : laidOutB Try.prog = true := by kernel_rfl
theorem walk {vs : List Value} {W : World} {zs : List AV} (hfit : ArgsFit [(true, [.str, .int .u64, .int .u64]), (true, [.str, .int .u64, .int .u64]), (true, [.str, .int .u64, .int .u64])] zs) (hrep : repL (fun _ => none) (memOf W) noG zs vs) :
    Calls Try.prog 7 ⟨vs⟩ W fun e w' => e = .returned (.bool true) ∧ Below W.heap.size W w' := by
  match zs, hfit with
  | [q0, q1, q2], ⟨⟨a0, f0, e0⟩, ⟨a1, f1, e1⟩, ⟨a2, f2, e2⟩, _⟩ =>
    obtain ⟨y0_0, r0_0, rfl, g0_0, k0_0⟩ := FitsL.cons f0
    obtain ⟨y0_1, r0_1, rfl, g0_1, k0_1⟩ := FitsL.cons k0_0
    obtain ⟨y0_2, r0_2, rfl, g0_2, k0_2⟩ := FitsL.cons k0_1
    obtain rfl := FitsL.nil k0_2
    obtain ⟨lh, rfl, h_lh⟩ := g0_0.str_inv
    obtain ⟨lu, rfl, h_lu⟩ := g0_1.int_inv
    replace h_lu := wf_u64 h_lu
    obtain ⟨lt, rfl, h_lt⟩ := g0_2.int_inv
    replace h_lt := wf_u64 h_lt
    obtain ⟨y1_0, r1_0, rfl, g1_0, k1_0⟩ := FitsL.cons f1
    obtain ⟨y1_1, r1_1, rfl, g1_1, k1_1⟩ := FitsL.cons k1_0
    obtain ⟨y1_2, r1_2, rfl, g1_2, k1_2⟩ := FitsL.cons k1_1
    obtain rfl := FitsL.nil k1_2
    obtain ⟨xw, rfl, h_xw⟩ := g1_0.str_inv
    obtain ⟨xn, rfl, h_xn⟩ := g1_1.int_inv
    replace h_xn := wf_u64 h_xn
    obtain ⟨xs, rfl, h_xs⟩ := g1_2.int_inv
    replace h_xs := wf_u64 h_xs
    obtain ⟨y2_0, r2_0, rfl, g2_0, k2_0⟩ := FitsL.cons f2
    obtain ⟨y2_1, r2_1, rfl, g2_1, k2_1⟩ := FitsL.cons k2_0
    obtain ⟨y2_2, r2_2, rfl, g2_2, k2_2⟩ := FitsL.cons k2_1
    obtain rfl := FitsL.nil k2_2
    obtain ⟨yw, rfl, h_yw⟩ := g2_0.str_inv
    obtain ⟨yn, rfl, h_yn⟩ := g2_1.int_inv
    replace h_yn := wf_u64 h_yn
    obtain ⟨ys, rfl, h_ys⟩ := g2_2.int_inv
    replace h_ys := wf_u64 h_ys
    refine calls_of_law ?_ hrep
    rw [show q0 = .agg [.str lh, .int .u64 lu, .int .u64 lt] from e0]
    rw [show q1 = .agg [.str xw, .int .u64 xn, .int .u64 xs] from e1]
    rw [show q2 = .agg [.str yw, .int .u64 yn, .int .u64 ys] from e2]
    have := sound_pure (f := 7) (fn := Try.f7) (by kernel_rfl) rfl (by kernel_rfl) (by kernel_rfl) (gives_tr lh lu lt xw xn xs yw yn ys (Nat.lt_of_le_of_lt h_yw reach_lt)) [] 0
    rw [gives_true] at this
    exact this
theorem lifted (os : Os) (started : os.Started) (H : Type) (enc : TypeId × Value → H) :
    ReturnsInHanded {} Try.checked os 7 .any (Rows.leaseGivesSpec.pre6 enc Try.prog Try.f7 Rows.leaseGivesRow.domain false) (Rows.leaseGivesSpec.post enc Try.prog Try.f7 false true false false) := by
  refine returnsInHanded_of_change_sized (C := Try.checked) own started (by kernel_rfl) Try.func7
    (ChangeSpec.witness6 (enc := enc) (C := Try.checked) false ⟨#[], #[.agg #[.string ByteArray.empty, .int .u64 0, .int .u64 0], .agg #[.string ByteArray.empty, .int .u64 0, .int .u64 0], .agg #[.string ByteArray.empty, .int .u64 0, .int .u64 0]], []⟩ 8 (by kernel_rfl) (by kernel_rfl) (by kernel_rfl) (by kernel_rfl)) ?_
  intro W base args ds gs before hval0 hW hcnd hsz0 _
  have hsz : (DataW.weightsEach Try.prog (Try.f7.params.toList ++ Rows.leaseGivesSpec.plain.varTypes Try.prog) (ds ++ gs)).all (· ≤ reachBytes) = true := hsz0
  have hval : ∀ (j : Nat) t v, Try.f7.params[j]? = some t → args[j]? = some v → Value.okWide Try.prog W .any base t v := hval0
  have hW' := hW
  obtain ⟨p, q, hA0, hV, rfl, hfz, hnd⟩ := hW
  have hA : DataW.TrodAll enc Try.prog W 0 (fun _ => true) true Try.f7.params.toList args.toList ds p := hA0
  obtain ⟨rfl, rfl⟩ := trodVars_none hV
  rw [List.append_nil, show Rows.leaseGivesSpec.plain.varTypes Try.prog = [] from rfl, List.append_nil] at hsz
  obtain ⟨zs, hfit, hrep⟩ := open_args (ρ := fun _ => none) (r := [(true, [.str, .int .u64, .int .u64]), (true, [.str, .int .u64, .int .u64]), (true, [.str, .int .u64, .int .u64])]) (by kernel_rfl) hA (fun j t v h1 h2 => hval j t v (by simpa using h1) (by simpa using h2)) (fun k hk => by simpa using List.all_eq_true.1 hsz k hk)
  have hA' := hA
  rw [Try.params7] at hA'
  obtain ⟨v0, vs0, d0, ds0, p0, q0, hargs, rfl, rfl, _, r0⟩ := trodAll_cons hA'
  obtain ⟨v1, vs1, d1, ds1, p1, q1, rfl, rfl, rfl, _, r1⟩ := trodAll_cons r0
  obtain ⟨v2, vs2, d2, ds2, p2, q2, rfl, rfl, rfl, _, r2⟩ := trodAll_cons r1
  obtain ⟨rfl, rfl, rfl⟩ := trodAll_nil r2
  have hback := fun W' (bel : Below W.heap.size W W') => below_all (enc := enc) (W := W) (W' := W') laidOut bel (by kernel_rfl) hA
  have hw := walk hfit hrep
  rw [show (⟨args.toList⟩ : Array Value) = args by simp] at hw
  clear hA0 hval0 hsz0 hsz
  refine hw.mono fun e W' ⟨he, bel⟩ => ?_
  subst he
  exact ⟨_, rfl, _, _, _, [], _, [], hW', trodAll_mk1 (shut_bool Try.underlying4 _), hback W' bel, rfl, bel.frame _, fun h => by cases h⟩
theorem over : Rows.leaseGivesRow.holds Try.pinned (OpenSpec.ofChange Rows.leaseGivesSpec) :=
  OpenClaim.holds_of_wide 7 Try.f7 rfl rfl rfl rfl rfl rfl rfl ⟨rfl, rfl, rfl, rfl, rfl⟩ rfl rfl rfl rfl rfl (by kernel_rfl) Try.func7 (by kernel_rfl)
    (of_decide_eq_true (by kernel_rfl)) (by unfold Func.isWrapper; first | (rw [if_pos (by decide +kernel)]; kernel_rfl) | (rw [if_neg (by decide +kernel)]; exact ⟨rfl, rfl⟩))
    (fun os started H enc _ => lifted os started H enc)
end Go.Proofs.Ytofimhodpemmiaa.leaseGives
namespace Go.Proofs.Ytofimhodpemmiaa
/-- The row, for the claim. -/
theorem leaseGives_holds : Rows.LeaseGivesSaid := leaseGives.over
#print axioms leaseGives_holds
end Go.Proofs.Ytofimhodpemmiaa
