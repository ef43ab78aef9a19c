/- By hand: an object's texts. -/
import Derived.Test.YtbjifeobhenkfaaDH0
set_option linter.unusedVariables false
set_option linter.unusedSimpArgs false
set_option maxRecDepth 100000
namespace Go.Proofs.Ytbjifeobhenkfaa
open Go Go.Eng
theorem fine_texts {o : XObj} (h : o.Fine) : ∀ q ∈ [o.cls, o.zone, o.node, o.claim, o.volume, o.source], q.size < 4611686018427387904 := by
 intro q hq
 obtain ⟨_, _, _, h1, h2, h3, h4, h5, h6⟩ := h
 simp only [List.mem_cons, List.not_mem_nil, or_false] at hq
 rcases hq with rfl | rfl | rfl | rfl | rfl | rfl <;> omega
theorem shr7 (v : Int) : shrI .u64 v 7 = v / 128 := by
 show v.fdiv 128 = v / 128
 exact Int.fdiv_eq_ediv_of_nonneg _ (by decide)
theorem num_step {v : Int} {g : Nat} (h : v > 127) (hv : 0 ≤ v ∧ v < 128 ^ g) : 1 ≤ g ∧ 0 ≤ shrI .u64 v 7 ∧ shrI .u64 v 7 < 128 ^ (g - 1) := by
 rw [shr7]
 match g, hv with
 | 0, hv => have := hv.2; simp at this; omega
 | g + 1, hv =>
  have h1 := hv.2
  rw [Int.pow_succ] at h1
  refine ⟨Nat.succ_le_succ (Nat.zero_le _), by omega, ?_⟩
  show v / 128 < 128 ^ g
  generalize (128 : Int) ^ g = z at *
  omega
theorem num_start {v : Int} (h : 0 ≤ v ∧ v ≤ 18446744073709551615) : 0 ≤ v ∧ v < 128 ^ 10 := by
 have : (128 : Int) ^ 10 = 1180591620717411303424 := by decide
 omega
theorem u64_len {n : Nat} (h : n ≤ 40) : IntKind.u64.wrap (n : Int) = n := wrap_u64 (by omega) (by omega)
end Go.Proofs.Ytbjifeobhenkfaa
