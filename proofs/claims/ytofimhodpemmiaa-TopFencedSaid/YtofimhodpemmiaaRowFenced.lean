/- The row TopFencedSaid: true for every input. -/
import Derived.Test.YtofimhodpemmiaaPureFenced
import Derived.Test.YtofimhodpemmiaaRows
import Derived.Test.YtofimhodpemmiaaEng19
import Derived.WalkKit
import Derived.ProofKit
import Derived.OpenShut
import Derived.ShutString
import Derived.ChangeOld
import Derived.Below
import Derived.SizedLaws
set_option maxRecDepth 100000
namespace Go.Proofs.Ytofimhodpemmiaa.topFenced
open Go.ChangeShapes Go.WideShapes Go.ChangeAt Go.RowKit Go.Eng
theorem own : ownKnob Try.prog.godebug = none := by kernel_rfl
theorem laidOut : laidOutB Try.prog = true := by kernel_rfl
theorem walk {vs : List Value} {W : World} {zs : List AV} (hfit : ArgsFit [(false, [.int .u32]), (false, [.int .u16])] zs) (hrep : repL (fun _ => none) (memOf W) noG zs vs) :
    Calls Try.prog 10 ⟨vs⟩ W fun e w' => e = .returned (.bool true) ∧ Below W.heap.size W w' := by
  match zs, hfit with
  | [q0, q1], ⟨⟨a0, f0, e0⟩, ⟨a1, f1, e1⟩, _⟩ =>
    obtain ⟨y0_0, r0_0, rfl, g0_0, k0_0⟩ := FitsL.cons f0
    obtain rfl := FitsL.nil k0_0
    obtain ⟨n, rfl, h_n⟩ := g0_0.int_inv
    replace h_n := wf_u32 h_n
    obtain ⟨y1_0, r1_0, rfl, g1_0, k1_0⟩ := FitsL.cons f1
    obtain rfl := FitsL.nil k1_0
    obtain ⟨s, rfl, h_s⟩ := g1_0.int_inv
    replace h_s := wf_u16 h_s
    refine calls_of_law ?_ hrep
    rw [show q0 = .int .u32 n from e0]
    rw [show q1 = .int .u16 s from e1]
    have := sound_pure (f := 10) (fn := Try.f10) (by kernel_rfl) rfl (by kernel_rfl) (by kernel_rfl) (fenced_tr n s) [] 0
    rw [fenced_true n s h_n h_s] at this
    exact this
theorem lifted (os : Os) (started : os.Started) (H : Type) (enc : TypeId × Value → H) :
    ReturnsInHanded {} Try.checked os 10 .any (Rows.topFencedSpec.pre6 enc Try.prog Try.f10 Rows.topFencedRow.domain false) (Rows.topFencedSpec.post enc Try.prog Try.f10 false true false false) := by
  refine returnsInHanded_of_change_sized (C := Try.checked) own started (by kernel_rfl) Try.func10
    (ChangeSpec.witness6 (enc := enc) (C := Try.checked) false ⟨#[], #[.int .u32 0, .int .u16 0], []⟩ 8 (by kernel_rfl) (by kernel_rfl) (by kernel_rfl) (by kernel_rfl)) ?_
  intro W base args ds gs before hval0 hW hcnd hsz0 _
  have hsz : (DataW.weightsEach Try.prog (Try.f10.params.toList ++ Rows.topFencedSpec.plain.varTypes Try.prog) (ds ++ gs)).all (· ≤ reachBytes) = true := hsz0
  have hval : ∀ (j : Nat) t v, Try.f10.params[j]? = some t → args[j]? = some v → Value.okWide Try.prog W .any base t v := hval0
  have hW' := hW
  obtain ⟨p, q, hA0, hV, rfl, hfz, hnd⟩ := hW
  have hA : DataW.TrodAll enc Try.prog W 0 (fun _ => true) true Try.f10.params.toList args.toList ds p := hA0
  obtain ⟨rfl, rfl⟩ := trodVars_none hV
  rw [List.append_nil, show Rows.topFencedSpec.plain.varTypes Try.prog = [] from rfl, List.append_nil] at hsz
  obtain ⟨zs, hfit, hrep⟩ := open_args (ρ := fun _ => none) (r := [(false, [.int .u32]), (false, [.int .u16])]) (by kernel_rfl) hA (fun j t v h1 h2 => hval j t v (by simpa using h1) (by simpa using h2)) (fun k hk => by simpa using List.all_eq_true.1 hsz k hk)
  have hA' := hA
  rw [Try.params10] at hA'
  obtain ⟨v0, vs0, d0, ds0, p0, q0, hargs, rfl, rfl, _, r0⟩ := trodAll_cons hA'
  obtain ⟨v1, vs1, d1, ds1, p1, q1, rfl, rfl, rfl, _, r1⟩ := trodAll_cons r0
  obtain ⟨rfl, rfl, rfl⟩ := trodAll_nil r1
  have hback := fun W' (bel : Below W.heap.size W W') => below_all (enc := enc) (W := W) (W' := W') laidOut bel (by kernel_rfl) hA
  have hw := walk hfit hrep
  rw [show (⟨args.toList⟩ : Array Value) = args by simp] at hw
  clear hA0 hval0 hsz0 hsz
  refine hw.mono fun e W' ⟨he, bel⟩ => ?_
  subst he
  exact ⟨_, rfl, _, _, _, [], _, [], hW', trodAll_mk1 (shut_bool Try.underlying4 _), hback W' bel, rfl, bel.frame _, fun h => by cases h⟩
theorem over : Rows.topFencedRow.holds Try.pinned (OpenSpec.ofChange Rows.topFencedSpec) :=
  OpenClaim.holds_of_wide 10 Try.f10 rfl rfl rfl rfl rfl rfl rfl ⟨rfl, rfl, rfl, rfl, rfl⟩ rfl rfl rfl rfl rfl (by kernel_rfl) Try.func10 (by kernel_rfl)
    (of_decide_eq_true (by kernel_rfl)) (by unfold Func.isWrapper; first | (rw [if_pos (by decide +kernel)]; kernel_rfl) | (rw [if_neg (by decide +kernel)]; exact ⟨rfl, rfl⟩))
    (fun os started H enc _ => lifted os started H enc)
end Go.Proofs.Ytofimhodpemmiaa.topFenced
namespace Go.Proofs.Ytofimhodpemmiaa
/-- The row, for the claim. -/
theorem topFenced_holds : Rows.TopFencedSaid := topFenced.over
#print axioms topFenced_holds
end Go.Proofs.Ytofimhodpemmiaa
