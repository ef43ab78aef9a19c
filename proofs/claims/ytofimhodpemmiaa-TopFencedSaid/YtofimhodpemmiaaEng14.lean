/- The engine, part 14: plain laws: numbers, bytes, lists. -/
import Derived.Test.YtofimhodpemmiaaEng13
namespace Go.Eng

theorem wrap_i64 {n : Int} (h1 : -9223372036854775808 ≤ n) (h2 : n ≤ 9223372036854775807) : IntKind.i64.wrap n = n := by
  simp [IntKind.wrap, IntKind.min, IntKind.max, IntKind.signed, IntKind.bits] <;> (try split) <;> omega
theorem wrap_u64 {n : Int} (h1 : 0 ≤ n) (h2 : n ≤ 18446744073709551615) : IntKind.u64.wrap n = n := by
  simp [IntKind.wrap, IntKind.min, IntKind.max, IntKind.signed, IntKind.bits] <;> (try split) <;> omega
theorem wrap_u8 {n : Int} (h1 : 0 ≤ n) (h2 : n ≤ 255) : IntKind.u8.wrap n = n := by
  simp [IntKind.wrap, IntKind.min, IntKind.max, IntKind.signed, IntKind.bits] <;> (try split) <;> omega
theorem wrap_succ {i : Nat} (h : i < 9223372036854775807) : IntKind.i64.wrap ((i : Int) + 1) = ((i + 1 : Nat) : Int) := by
  rw [wrap_i64] <;> omega
theorem byteAt_get {s : ByteArray} {i : Nat} (h : i < s.size) : byteAt s (i : Int) = ((s.data.toList[i]'(by simpa using h)).toNat : Int) := by
  have hd : s.data.getD i 0 = s.data.toList[i]'(by simpa using h) := by
    have : i < s.data.size := h
    simp only [Array.getD, this, dif_pos, Array.getElem_toList, Array.getInternal_eq_getElem]
  simp only [byteAt, Int.toNat_natCast, hd]
end Go.Eng
