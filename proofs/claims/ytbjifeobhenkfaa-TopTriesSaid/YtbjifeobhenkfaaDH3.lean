/- By hand: waiting times. -/
import Derived.Test.YtbjifeobhenkfaaDH1
set_option linter.unusedVariables false
set_option linter.unusedSimpArgs false
set_option maxRecDepth 100000
namespace Go.Proofs.Ytbjifeobhenkfaa
open Go Go.Eng
theorem delay_need {a : Int} (h : ¬ a ≤ 0) (hp : a ≤ 40) : 0 ≤ if (6 : Int) < IntKind.i64.wrap (a - 1) then 6 else IntKind.i64.wrap (a - 1) := by
 rw [wrap_i64 (by omega) (by omega)]
 split <;> omega
theorem room_up {n : Int} (h : 0 ≤ n ∧ n ≤ 1000000) : bitsI .xor .u64 (if IntKind.signed .u64 then -1 else IntKind.max .u64) n = 18446744073709551615 - n := by
 obtain ⟨m, rfl⟩ : ∃ m : Nat, n = (m : Int) := ⟨n.toNat, by omega⟩
 have hm : m < 2 ^ 64 := by omega
 have e1 : (if IntKind.signed .u64 then (-1 : Int) else IntKind.max .u64) = 18446744073709551615 := by decide
 rw [e1]
 show IntKind.u64.wrap (((BitVec.ofInt 64 18446744073709551615 ^^^ BitVec.ofInt 64 (m : Int)).toNat : Nat) : Int) = _
 have e2 : BitVec.ofInt 64 18446744073709551615 = BitVec.allOnes 64 := by decide
 have e3 : BitVec.ofInt 64 (m : Int) = BitVec.ofNat 64 m := BitVec.ofInt_natCast _ _
 rw [e2, e3, BitVec.allOnes_xor, BitVec.toNat_not, BitVec.toNat_ofNat, Nat.mod_eq_of_lt hm, wrap_u64 (by omega) (by omega)]
 omega
end Go.Proofs.Ytbjifeobhenkfaa
