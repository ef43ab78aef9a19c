/- Topo: by hand: what a text is cut into. -/
import Derived.Test.YtbjlmmeabonbpaaDoorDCut
set_option linter.unusedVariables false
set_option linter.unusedSimpArgs false
set_option maxRecDepth 100000
namespace Go.Proofs.YtbjlmmeabonbpaaDoor
open Go Go.Eng
theorem ext_size (s : ByteArray) (i j : Nat) : (s.extract i j).size = min j s.size - i := ByteArray.size_extract
/-- A text, cut. -/
theorem cut_all (s sep : ByteArray) (h1 : sep.size = 1) (hs : s.size < 4611686018427387904) : (strings_CutF s sep = (s, ⟨#[]⟩, false) ∧ idx1 s sep = -1) ∨ ∃ i : Nat, i + 1 ≤ s.size ∧ idx1 s sep = i ∧ strings_CutF s sep = (s.extract 0 i, s.extract (i + 1) s.size, true) := by
  rcases idx1_cases s sep h1 with h | ⟨i, h, hi⟩
  · refine .inl ⟨?_, h⟩
    unfold strings_CutF stringslite_CutF
    rw [h]
    rfl
  · refine .inr ⟨i, hi, h, ?_⟩
    unfold strings_CutF stringslite_CutF
    have e : (IntKind.i64.wrap ((i : Int) + (sep.size : Int))).toNat = i + 1 := by
      rw [h1, IntKind.wrap_i64]
      omega
    rw [h, e, decide_eq_true (show ((i : Int) ≥ 0) by omega), Int.toNat_natCast]
    rfl
theorem cut_size (s sep : ByteArray) (h1 : sep.size = 1) (hs : s.size < 4611686018427387904) : (strings_CutF s sep).1.size ≤ s.size ∧ (strings_CutF s sep).2.1.size ≤ s.size ∧ ((strings_CutF s sep).2.2 = true → (strings_CutF s sep).1.size + (strings_CutF s sep).2.1.size + 1 = s.size) := by
  rcases cut_all s sep h1 hs with ⟨h, _⟩ | ⟨i, hi, _, h⟩
  · rw [h]
    exact ⟨Nat.le_refl _, Nat.zero_le _, fun h => by cases h⟩
  · rw [h]
    show (s.extract 0 i).size ≤ _ ∧ (s.extract (i + 1) s.size).size ≤ _ ∧ (_ → (s.extract 0 i).size + (s.extract (i + 1) s.size).size + 1 = s.size)
    rw [ext_size, ext_size]
    exact ⟨by omega, by omega, fun _ => by omega⟩
/-- How much is to be cut yet. -/
def partsMu (b : Bool) (s : ByteArray) : Nat := cond b (s.size + 1) 0
theorem partsMu_true (s : ByteArray) : partsMu true s = s.size + 1 := rfl
theorem partsMu_le (b : Bool) (s : ByteArray) : partsMu b s ≤ s.size + 1 := by cases b; exact Nat.zero_le _; exact Nat.le_refl _
theorem partsMu_cut (s sep : ByteArray) (h1 : sep.size = 1) (hs : s.size < 4611686018427387904) : partsMu (strings_CutF s sep).2.2 (strings_CutF s sep).2.1 ≤ s.size := by
  have h := cut_size s sep h1 hs
  cases hb : (strings_CutF s sep).2.2 with
  | false => exact Nat.zero_le _
  | true =>
    have := h.2.2 hb
    show (strings_CutF s sep).2.1.size + 1 ≤ s.size
    omega
theorem splitB_size (sep : ByteArray) : ∀ (k : Nat) (s : ByteArray), ∀ x ∈ Lib.splitB sep 0 k s, x.size ≤ s.size
  | 0, s, x, hx => by
    rw [Lib.splitB_zero] at hx
    rw [List.mem_singleton.1 hx]
    exact Nat.le_refl _
  | k + 1, s, x, hx => by
    unfold Lib.splitB at hx
    split at hx
    · rw [List.mem_singleton.1 hx]; exact Nat.le_refl _
    · rcases List.mem_cons.1 hx with rfl | hx
      · rw [ext_size]; omega
      · have := splitB_size sep k _ x hx
        rw [ext_size] at this
        omega
theorem split1_size (s sep : ByteArray) : ∀ x ∈ split1 s sep, x.size ≤ s.size := splitB_size sep _ s
theorem split1_len (s sep : ByteArray) (h1 : sep.size = 1) : (split1 s sep).length ≤ s.size + 1 := by
  have h := Lib.splitB_length_le sep 0 (Lib.countB s sep) s
  have h2 := Lib.countB_le sep (by omega) s.size s (Nat.le_refl _)
  exact Nat.le_trans h (by omega)
end Go.Proofs.YtbjlmmeabonbpaaDoor
