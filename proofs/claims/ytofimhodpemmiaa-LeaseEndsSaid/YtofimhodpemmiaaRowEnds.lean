/- Leases: LeaseEnds, the row. -/
import Derived.Test.YtofimhodpemmiaaPureEnds
import Derived.Test.YtofimhodpemmiaaRows
import Derived.WalkKit
import Derived.ProofKit
import Derived.OpenShut
import Derived.ShutString
import Derived.ChangeOld
import Derived.Below
import Derived.SizedLaws
set_option maxRecDepth 100000
namespace Go.Proofs.Ytofimhodpemmiaa.leaseEnds
open Go.ChangeShapes Go.WideShapes Go.ChangeAt Go.RowKit Go.Eng
theorem own : ownKnob Try.prog.godebug = none := by kernel_rfl
theorem laidOut : laidOutB Try.prog = true := by kernel_rfl
theorem walk {vs : List Value} {W : World} {xs : List AV} (hfit : ArgsFit [(true, [.str, .int .u64, .int .u64]), (false, [.int .u64])] xs) (hrep : repL (fun _ => none) (memOf W) noG xs vs) :
    Calls Try.prog 5 ⟨vs⟩ W fun e w' => e = .returned (.bool true) ∧ Below W.heap.size W w' := by
  match xs, hfit with
  | [x0, x1], ⟨⟨a0, f0, e0⟩, ⟨a1, f1, e1⟩, _⟩ =>
    obtain ⟨y0, r0, rfl, g0, f0⟩ := FitsL.cons f0
    obtain ⟨y1, r1, rfl, g1, f0⟩ := FitsL.cons f0
    obtain ⟨y2, r2, rfl, g2, f0⟩ := FitsL.cons f0
    obtain rfl := FitsL.nil f0
    obtain ⟨z0, s0, rfl, k0, f1⟩ := FitsL.cons f1
    obtain rfl := FitsL.nil f1
    obtain ⟨xw, rfl, hw⟩ := g0.str_inv
    obtain ⟨xn, rfl, hn⟩ := g1.int_inv
    obtain ⟨xs, rfl, hs⟩ := g2.int_inv
    obtain ⟨at_, rfl, ha⟩ := k0.int_inv
    simp only [Lit.wf, IntKind.min, IntKind.max, IntKind.signed, IntKind.bits, Bool.and_eq_true, decide_eq_true_eq] at hn hs ha
    refine calls_of_law ?_ hrep
    have hx0 : x0 = .agg [.str xw, .int .u64 xn, .int .u64 xs] := e0
    have hx1 : x1 = .int .u64 at_ := e1
    rw [hx0, hx1]
    have := sound_pure (f := 5) (fn := Try.f5) (by kernel_rfl) rfl (by kernel_rfl) (by kernel_rfl) (ends_tr xw xn xs at_ (Nat.lt_of_le_of_lt hw (by decide))) [] 0
    rw [ends_true xw xn xs at_ (by simpa using hn.1) (by simpa using hs.1) (by simpa using ha.1)] at this
    exact this
theorem lifted (os : Os) (started : os.Started) (H : Type) (enc : TypeId × Value → H) :
    ReturnsInHanded {} Try.checked os 5 .any (Rows.leaseEndsSpec.pre6 enc Try.prog Try.f5 Rows.leaseEndsRow.domain false) (Rows.leaseEndsSpec.post enc Try.prog Try.f5 false true false false) := by
  refine returnsInHanded_of_change_sized (C := Try.checked) own started (by kernel_rfl) Try.func5
    (ChangeSpec.witness6 (enc := enc) (C := Try.checked) false ⟨#[], #[.agg #[.string ByteArray.empty, .int .u64 0, .int .u64 0], .int .u64 0], []⟩ 8 (by kernel_rfl) (by kernel_rfl) (by kernel_rfl) (by kernel_rfl)) ?_
  intro W base args ds gs before hval0 hW hcnd hsz0 _
  have hsz : (DataW.weightsEach Try.prog (Try.f5.params.toList ++ Rows.leaseEndsSpec.plain.varTypes Try.prog) (ds ++ gs)).all (· ≤ reachBytes) = true := hsz0
  have hval : ∀ (j : Nat) t v, Try.f5.params[j]? = some t → args[j]? = some v → Value.okWide Try.prog W .any base t v := hval0
  have hW' := hW
  obtain ⟨p, q, hA0, hV, rfl, hfz, hnd⟩ := hW
  have hA : DataW.TrodAll enc Try.prog W 0 (fun _ => true) true Try.f5.params.toList args.toList ds p := hA0
  obtain ⟨rfl, rfl⟩ := trodVars_none hV
  rw [List.append_nil, show Rows.leaseEndsSpec.plain.varTypes Try.prog = [] from rfl, List.append_nil] at hsz
  obtain ⟨xs, hfit, hrep⟩ := open_args (ρ := fun _ => none) (r := [(true, [.str, .int .u64, .int .u64]), (false, [.int .u64])]) (by kernel_rfl) hA (fun j t v h1 h2 => hval j t v (by simpa using h1) (by simpa using h2)) (fun k hk => by simpa using List.all_eq_true.1 hsz k hk)
  have hA' := hA
  rw [Try.params5] at hA'
  obtain ⟨v0, vs0, d0, ds0, p0, q0, hargs, rfl, rfl, _, r0⟩ := trodAll_cons hA'
  obtain ⟨v1, vs1, d1, ds1, p1, q1, rfl, rfl, rfl, _, r1⟩ := trodAll_cons r0
  obtain ⟨rfl, rfl, rfl⟩ := trodAll_nil r1
  have hback := fun W' (bel : Below W.heap.size W W') => below_all (enc := enc) (W := W) (W' := W') laidOut bel (by kernel_rfl) hA
  have hw := walk hfit hrep
  rw [show (⟨args.toList⟩ : Array Value) = args by simp] at hw
  clear hA0 hval0 hsz0 hsz
  refine hw.mono fun e W' ⟨he, bel⟩ => ?_
  subst he
  exact ⟨_, rfl, _, _, _, [], _, [], hW', trodAll_mk1 (shut_bool Try.underlying4 _), hback W' bel, rfl, bel.frame _, fun h => by cases h⟩
theorem over : Rows.leaseEndsRow.holds Try.pinned (OpenSpec.ofChange Rows.leaseEndsSpec) :=
  OpenClaim.holds_of_wide 5 Try.f5 rfl rfl rfl rfl rfl rfl rfl ⟨rfl, rfl, rfl, rfl, rfl⟩ rfl rfl rfl rfl rfl (by kernel_rfl) Try.func5 (by kernel_rfl)
    (of_decide_eq_true (by kernel_rfl)) (by unfold Func.isWrapper; first | (rw [if_pos (by decide +kernel)]; kernel_rfl) | (rw [if_neg (by decide +kernel)]; exact ⟨rfl, rfl⟩))
    (fun os started H enc _ => lifted os started H enc)
end Go.Proofs.Ytofimhodpemmiaa.leaseEnds
namespace Go.Proofs.Ytofimhodpemmiaa
/-- The row, for the claim. -/
theorem leaseEnds_holds : Rows.LeaseEndsSaid := leaseEnds.over
#print axioms leaseEnds_holds
end Go.Proofs.Ytofimhodpemmiaa
