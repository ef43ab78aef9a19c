/- The document's driver: by hand: places. -/
import Derived.Test.YtkledlcmhbjadaaGreatDRFind
set_option linter.unusedVariables false
set_option linter.unusedSimpArgs false
set_option maxRecDepth 100000
namespace Go.Proofs.YtkledlcmhbjadaaGreat
open Go Go.Eng
theorem Zf4 {α : Type} [Inhabited α] {l : List α} {i : Int} (h0 : 0 ≤ i) (h : i < (l.length : Int)) : l.getD i.toNat default ∈ l := Z172 (by omega)
theorem volL_rng (a1 : BA) : ∀ (l : LV) (i : Nat), (Z69 a1 l i).1 = true → (i : Int) ≤ (Z69 a1 l i).2 ∧ (Z69 a1 l i).2 < (i : Int) + (l.length : Int)
 | [], i, h => by simp [Z69] at h
 | o :: r, i, h => by
  unfold Z69 at h ⊢
  rw [List.length_cons]
  generalize decide (o.name = a1) = c at h ⊢
  cases c with
  | true => simp only [cond_true] at h ⊢; omega
  | false =>
   simp only [cond_false] at h ⊢
   have := volL_rng a1 r (i + 1) h
   omega
theorem Z20b (a1 : BA) (b1 : LZ) (b2 : LV) (b3 : LS) (b4 : LQ) : -1 ≤ Z5 a1 b1 b2 b3 b4 ∧ Z5 a1 b1 b2 b3 b4 < (b2.length : Int) := by
 unfold Z5
 cases h : (Z69 a1 b2 0).1 with
 | true =>
  have := volL_rng a1 b2 0 h
  simp only [cond_true]; omega
 | false => simp only [cond_false]; omega
theorem snapL_rng (a1 : BA) : ∀ (l : LS) (i : Nat), (Z5a a1 l i).1 = true → (i : Int) ≤ (Z5a a1 l i).2 ∧ (Z5a a1 l i).2 < (i : Int) + (l.length : Int)
 | [], i, h => by simp [Z5a] at h
 | o :: r, i, h => by
  unfold Z5a at h ⊢
  rw [List.length_cons]
  generalize decide (o.name = a1) = c at h ⊢
  cases c with
  | true => simp only [cond_true] at h ⊢; omega
  | false =>
   simp only [cond_false] at h ⊢
   have := snapL_rng a1 r (i + 1) h
   omega
theorem Z18a (a1 : BA) (b1 : LZ) (b2 : LV) (b3 : LS) (b4 : LQ) : -1 ≤ Z24 a1 b1 b2 b3 b4 ∧ Z24 a1 b1 b2 b3 b4 < (b3.length : Int) := by
 unfold Z24
 cases h : (Z5a a1 b3 0).1 with
 | true =>
  have := snapL_rng a1 b3 0 h
  simp only [cond_true]; omega
 | false => simp only [cond_false]; omega
theorem zoneL_rng (a1 : BA) : ∀ (l : LZ) (i : Nat), (Z53 a1 l i).1 = true → (i : Int) ≤ (Z53 a1 l i).2 ∧ (Z53 a1 l i).2 < (i : Int) + (l.length : Int)
 | [], i, h => by simp [Z53] at h
 | o :: r, i, h => by
  unfold Z53 at h ⊢
  rw [List.length_cons]
  generalize decide (o.name = a1) = c at h ⊢
  cases c with
  | true => simp only [cond_true] at h ⊢; omega
  | false =>
   simp only [cond_false] at h ⊢
   have := zoneL_rng a1 r (i + 1) h
   omega
theorem Zcc (a1 : BA) (b1 : LZ) (b2 : LV) (b3 : LS) (b4 : LQ) : -1 ≤ Z16 a1 b1 b2 b3 b4 ∧ Z16 a1 b1 b2 b3 b4 < (b1.length : Int) := by
 unfold Z16
 cases h : (Z53 a1 b1 0).1 with
 | true =>
  have := zoneL_rng a1 b1 0 h
  simp only [cond_true]; omega
 | false => simp only [cond_false]; omega
theorem lastL_rng (a1 : Int) (a2 : BA) : ∀ (l : LQ) (i : Nat), (Z5b a1 a2 l i).1 = true → (i : Int) ≤ (Z5b a1 a2 l i).2 ∧ (Z5b a1 a2 l i).2 < (i : Int) + (l.length : Int)
 | [], i, h => by simp [Z5b] at h
 | o :: r, i, h => by
  unfold Z5b at h ⊢
  rw [List.length_cons]
  generalize cond (decide (o.c.target = a2)) (Z4a o.c.verb == Z4a a1) false = c at h ⊢
  cases c with
  | true => simp only [cond_true] at h ⊢; omega
  | false =>
   simp only [cond_false] at h ⊢
   have := lastL_rng a1 a2 r (i + 1) h
   omega
theorem Z1ea (a1 : Int) (a2 : BA) (b1 : LZ) (b2 : LV) (b3 : LS) (b4 : LQ) : -1 ≤ Z1c a1 a2 b1 b2 b3 b4 ∧ Z1c a1 a2 b1 b2 b3 b4 < (b4.length : Int) := by
 unfold Z1c
 cases h : (Z5b a1 a2 b4 0).1 with
 | true =>
  have := lastL_rng a1 a2 b4 0 h
  simp only [cond_true]; omega
 | false => simp only [cond_false]; omega
def ZHas (b1 : LZ) (z : BA) : Prop := ∃ q ∈ b1, q.name = z
theorem zoneL_has (z : BA) : ∀ (l : LZ) (i : Nat), ZHas l z → (Z53 z l i).1 = true
 | [], _, h => by obtain ⟨q, hq, _⟩ := h; cases hq
 | o :: r, i, h => by
  unfold Z53
  by_cases e : o.name = z
  · rw [decide_eq_true e, cond_true]
  · rw [decide_eq_false e, cond_false]
    obtain ⟨q, hq, hz⟩ := h
    rcases List.mem_cons.1 hq with rfl | hq
    · exact absurd hz e
    · exact zoneL_has z r (i + 1) ⟨q, hq, hz⟩
theorem Z1cc {z : BA} {b1 : LZ} (h : ZHas b1 z) (b2 : LV) (b3 : LS) (b4 : LQ) : 0 ≤ Z16 z b1 b2 b3 b4 := by
 unfold Z16
 have h1 := zoneL_has z b1 0 h
 rw [h1, cond_true]
 exact (zoneL_rng z b1 0 h1).1
theorem wrap1 {x : Int} (h0 : -1 ≤ x) (h1 : x < 1000000) : IntKind.i64.wrap (x + 1) = x + 1 := by rw [IntKind.wrap_i64]; omega
theorem rngs (a1 : XCall) (b1 : LZ) (b2 : LV) (b3 : LS) (b4 : LQ) : (-1 ≤ Z5 a1.target b1 b2 b3 b4 ∧ Z5 a1.target b1 b2 b3 b4 < (b2.length : Int)) ∧ (-1 ≤ Z5 a1.source b1 b2 b3 b4 ∧ Z5 a1.source b1 b2 b3 b4 < (b2.length : Int)) ∧ (-1 ≤ Z24 a1.target b1 b2 b3 b4 ∧ Z24 a1.target b1 b2 b3 b4 < (b3.length : Int)) ∧ (-1 ≤ Z24 a1.source b1 b2 b3 b4 ∧ Z24 a1.source b1 b2 b3 b4 < (b3.length : Int)) ∧ (-1 ≤ Z16 a1.zone b1 b2 b3 b4 ∧ Z16 a1.zone b1 b2 b3 b4 < (b1.length : Int)) ∧ (-1 ≤ Z1c a1.verb a1.target b1 b2 b3 b4 ∧ Z1c a1.verb a1.target b1 b2 b3 b4 < (b4.length : Int)) :=
 ⟨Z20b a1.target b1 b2 b3 b4, Z20b a1.source b1 b2 b3 b4, Z18a a1.target b1 b2 b3 b4, Z18a a1.source b1 b2 b3 b4, Zcc a1.zone b1 b2 b3 b4, Z1ea a1.verb a1.target b1 b2 b3 b4⟩
end Go.Proofs.YtkledlcmhbjadaaGreat
