/- Bind: by hand: what is found is Fine. -/
import Derived.Test.YtkledlcmhbjadaaGreatDoorDGet
import Derived.Test.YtkledlcmhbjadaaGreatDoorDH0
set_option linter.unusedVariables false
set_option linter.unusedSimpArgs false
set_option maxRecDepth 100000
namespace Go.Proofs.YtkledlcmhbjadaaGreatDoor
open Go Go.Eng
theorem ofLF_len : ∀ (l : List XObj) (m : List (XKey × Bool)) (v : List XObj), (Z73 l m v).length ≤ v.length + l.length
 | [], m, v => Nat.le_refl _
 | o :: r, m, v => by
  unfold Z73
  cases (!((mget (k := .key) (v := .bool) m (Z4d o)).getD default)) with
  | true =>
   rw [cond_true]
   refine Nat.le_trans (ofLF_len r _ _) ?_
   simp only [List.length_append, List.length_cons, List.length_nil]
   omega
  | false =>
   rw [cond_false]
   refine Nat.le_trans (ofLF_len r _ _) ?_
   simp only [List.length_cons]
   omega
theorem ofLF_sub : ∀ (l : List XObj) (m : List (XKey × Bool)) (v : List XObj), ∀ o ∈ Z73 l m v, o ∈ v ∨ o ∈ l
 | [], m, v, o, h => .inl h
 | x :: r, m, v, o, h => by
  unfold Z73 at h
  cases hc : (!((mget (k := .key) (v := .bool) m (Z4d x)).getD default)) with
  | true =>
   rw [hc, cond_true] at h
   rcases ofLF_sub r _ _ o h with h | h
   · rcases List.mem_append.1 h with h | h
     · exact .inl h
     · rw [List.mem_singleton.1 h]; exact .inr List.mem_cons_self
   · exact .inr (List.mem_cons_of_mem _ h)
  | false =>
   rw [hc, cond_false] at h
   exact (ofLF_sub r _ _ o h).imp id (List.mem_cons_of_mem _)
theorem of_le (l : List XObj) : (Z4 l).length ≤ l.length := by
 have h := ofLF_len l [] []
 simp only [List.length_nil, Nat.zero_add] at h
 exact h
theorem of_len (l : List XObj) (h : l.length ≤ 64) : (Z4 l).length ≤ 64 := Nat.le_trans (of_le l) h
theorem Z6d (l : List XObj) (h : l.length ≤ 64) : (Z4 l).length < 4611686018427387904 := Nat.lt_of_le_of_lt (of_len l h) (by decide)
theorem Z4c (l : List XObj) (h : ∀ o ∈ l, o.Fine) : ∀ o ∈ Z4 l, o.Fine := fun o ho => by
 rcases ofLF_sub l [] [] o ho with h1 | h1
 · cases h1
 · exact h o h1
theorem Z25d (k : Int) (n : ByteArray) (w : List XObj) : ∀ l : List XObj, (Z19 k n w l).2 = default ∨ (Z19 k n w l).2 ∈ l
 | [] => .inl rfl
 | o :: r => by
  unfold Z19
  cases cond ((o.kind) == (Z30 k w n)) (Z9b o n) false with
  | true => exact .inr List.mem_cons_self
  | false => exact (Z25d k n w r).imp id (List.mem_cons_of_mem _)
theorem Z43 (k : Int) (n : ByteArray) (l : List XObj) (h : ∀ o ∈ l, o.Fine) : (Z1 k n l).1.Fine := by
 unfold Z1
 cases Z67 k n l with
 | true =>
  rw [cond_true]
  rcases Z25d k n l l with e | e
  · show (Z19 k n l l).2.Fine
    rw [e]; exact Z5b
  · exact h _ e
 | false => exact Z5b
theorem named_size (a : ByteArray) (o : XObj) : (Z90 a o).size ≤ 40 := by
 unfold Z90
 generalize ((a ++ o.name) ++ (⟨#[35]⟩ : ByteArray)) ++ (fmtU o.born) = x
 by_cases h : (x.size : Int) > 40
 · rw [decide_eq_true h]; exact Nat.zero_le _
 · rw [decide_eq_false h]; show x.size ≤ _; omega
theorem Z6e (o : XObj) : (Z5d o).size ≤ 140737488351232 := by
 have h := named_size (⟨#[112, 118, 99, 47]⟩ : ByteArray) o
 unfold Z5d Z2c
 rw [ByteArray.size_extract]
 omega
theorem Zb1 {g : XObj} (hg : g.Fine) {t z : ByteArray} (ht : t.size ≤ 140737488351232) (hz : z.size ≤ 140737488351232) (s : Int) (k : Bool) : (⟨4, t, 0, 0, false, false, g.cls, g.size, s, g.mode, k, false, z, ⟨#[]⟩, Z5d g, ⟨#[]⟩, ⟨#[]⟩, 3, 0, 0⟩ : XObj).Fine :=
 ⟨ht, Int.le_refl 0, (by decide : (0 : Int) ≤ 18446744073709551615), hg.2.2.2.1, hz, Nat.zero_le _, Z6e g, Nat.zero_le _, Nat.zero_le _⟩
end Go.Proofs.YtkledlcmhbjadaaGreatDoor
