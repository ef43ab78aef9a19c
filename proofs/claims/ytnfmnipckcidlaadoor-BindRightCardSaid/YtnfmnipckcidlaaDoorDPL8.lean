/- Binding: plain laws: names made of names are right. -/
import Derived.Test.YtnfmnipckcidlaaDoorDPL7
import Derived.Test.YtnfmnipckcidlaaDoorDPL6
set_option linter.unusedVariables false
set_option linter.unusedSimpArgs false
set_option maxRecDepth 100000
namespace Go.Proofs.YtnfmnipckcidlaaDoor
open Go Go.Eng
/-- A name's letter. -/
def okc (b : Int) : Bool := cond (cond (cond (cond (cond (cond (decide (b ≥ (97 : Int))) (decide (b ≤ (122 : Int))) false) true (cond (decide (b ≥ (48 : Int))) (decide (b ≤ (57 : Int))) false)) true (b == (45 : Int))) true (b == (46 : Int))) true (b == (35 : Int))) true (b == (47 : Int))
theorem nameLF_iff (a : ByteArray) : ∀ (n i : Nat), r03_NameLF a n i = false ↔ ∀ j, i ≤ j → j < i + n → okc (byteAt a (j : Int)) = true
  | 0, i => ⟨fun _ j h1 h2 => by omega, fun _ => rfl⟩
  | n + 1, i => by
    rw [show r03_NameLF a (n + 1) i = cond (!(okc (byteAt a (i : Int)))) true (r03_NameLF a n (i + 1)) from rfl]
    have ih := nameLF_iff a n (i + 1)
    cases h : okc (byteAt a (i : Int)) with
    | false =>
      simp only [Bool.not_false, cond_true]
      exact ⟨fun h => (by cases h), fun h2 => (by rw [h2 i (Nat.le_refl _) (by omega)] at h; cases h)⟩
    | true =>
      simp only [Bool.not_true, cond_false]
      rw [ih]
      refine ⟨fun h2 j h3 h4 => ?_, fun h2 j h3 h4 => h2 j (by omega) (by omega)⟩
      by_cases e : j = i
      · subst e; exact h
      · exact h2 j (by omega) (by omega)
theorem byteAt_get (a : ByteArray) (j : Nat) (h : j < a.data.toList.length) : byteAt a (j : Int) = ((a.data.toList[j]).toNat : Int) := by
  unfold byteAt
  have h' : j < a.data.size := by simpa using h
  rw [Int.toNat_natCast, Array.getD_eq_getD_getElem?, Array.getElem?_eq_getElem h', Option.getD_some]
  simp
theorem name_iff (a : ByteArray) : r03_NameF a = true ↔ (∀ b ∈ a.data.toList, okc (b.toNat : Int) = true) ∧ 1 ≤ a.size ∧ a.size ≤ 40 := by
  unfold r03_NameF
  have h1 := nameLF_iff a a.size 0
  have hsz : a.data.toList.length = a.size := by simp
  have h2 : (∀ j, 0 ≤ j → j < 0 + a.size → okc (byteAt a (j : Int)) = true) ↔ ∀ b ∈ a.data.toList, okc (b.toNat : Int) = true := by
    constructor
    · intro h b hb
      obtain ⟨j, hj, rfl⟩ := List.mem_iff_getElem.1 hb
      rw [← byteAt_get a j hj]
      exact h j (Nat.zero_le _) (by omega)
    · intro h j _ hj
      rw [byteAt_get a j (by omega)]
      exact h _ (List.getElem_mem _)
  rw [h2] at h1
  cases h3 : r03_NameLF a a.size 0 with
  | true =>
    rw [cond_true]
    constructor
    · intro h; cases h
    · intro h; rw [h1.2 h.1] at h3; cases h3
  | false =>
    rw [cond_false, cond_and, Bool.and_eq_true, decide_eq_true_eq, decide_eq_true_eq]
    have := h1.1 h3
    constructor
    · intro h; exact ⟨this, by omega, by omega⟩
    · intro h; exact ⟨by omega, by omega⟩
theorem digits_ok : ∀ (u : Nat), ∀ b ∈ Lib.decDigits u, okc (b.toNat : Int) = true := by
  have d : ∀ k, k < 10 → okc (((UInt8.ofNat (48 + k)).toNat : Nat) : Int) = true := by decide
  intro u
  induction u using Nat.strongRecOn with
  | ind u ih =>
    intro b hb
    by_cases hu : u < 10
    · rw [Lib.decDigits_one hu] at hb
      obtain rfl := List.mem_singleton.1 hb
      exact d u hu
    · rw [dd_big hu] at hb
      rcases List.mem_append.1 hb with hb | hb
      · exact ih _ (by omega) b hb
      · obtain rfl := List.mem_singleton.1 hb
        exact d _ (by omega)
theorem ref_ok {c : XObj} (hn : r03_NameF c.name = true) (hh : decide (r12_HandleF c = (⟨#[]⟩ : ByteArray)) = false) : r03_NameF (r12_RefF c) = true ∧ r12_RefF c ≠ (⟨#[]⟩ : ByteArray) ∧ r03_NameF (r12_HandleF c) = true := by
  rw [handle_raw] at hh
  rw [ref_raw, handle_raw]
  by_cases q : ((rawHandle c.name c.born).size : Int) > 40
  · rw [decide_eq_true q] at hh
    simp at hh
  · rw [decide_eq_false q]
    simp only [cond_false]
    have hs : (rawHandle c.name c.born).size = 4 + (rawRef c.name c.born).size := by
      have := congrArg List.length (rawHandle_list c.name c.born)
      simp at this
      omega
    have hp : 1 ≤ (rawRef c.name c.born).size := by
      have := congrArg List.length (rawRef_list c.name c.born)
      simp at this
      omega
    have hr : ∀ b ∈ (rawRef c.name c.born).data.toList, okc (b.toNat : Int) = true := by
      intro b hb
      rw [rawRef_list] at hb
      rcases List.mem_append.1 hb with hb | hb
      · exact ((name_iff c.name).1 hn).1 b hb
      · rcases List.mem_cons.1 hb with rfl | hb
        · decide
        · exact digits_ok _ b hb
    refine ⟨(name_iff _).2 ⟨hr, hp, by omega⟩, ?_, (name_iff _).2 ⟨?_, by omega, by omega⟩⟩
    · exact of_decide_eq_false (rawRef_ne _ _)
    · intro b hb
      rw [rawHandle_list] at hb
      rcases List.mem_append.1 hb with hb | hb
      · have hd : ∀ b ∈ ([112, 118, 99, 47] : List UInt8), okc (b.toNat : Int) = true := by decide
        exact hd b hb
      · exact hr b hb
end Go.Proofs.YtnfmnipckcidlaaDoor
