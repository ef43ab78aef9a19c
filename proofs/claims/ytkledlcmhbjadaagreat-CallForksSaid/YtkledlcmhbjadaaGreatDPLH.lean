/- The driver, plainly: a deed on both; zones. -/
import Derived.Test.YtkledlcmhbjadaaGreatDPLG
import Derived.Test.YtkledlcmhbjadaaGreatDRTell
import Derived.Test.YtkledlcmhbjadaaGreatDNew
import Derived.Test.YtkledlcmhbjadaaGreatDRNew
set_option linter.unusedVariables false
set_option linter.unusedSimpArgs false
set_option maxRecDepth 100000
namespace Go.Proofs.YtkledlcmhbjadaaGreat
open Go Go.Eng
section
variable {b1 : LA} {b2 : LB} {b3 : LC} {b4 : LD} {z : LZ} {v : LV} {s : LS} {q : LQ} {n : Nat}
theorem res_eq (r : XRes) : ((r.err == r.err) && ((r.size == r.size) && ((decide (r.zone = r.zone)) && (r.tag == r.tag)))) = true := by simp
theorem rVolumes2_id (z : LZ) (v : LV) (s : LS) (q : LQ) : Z267 z v s q = v := by
 have key : ∀ (l a : LV), Z25d l a = a ++ l := by
  intro l
  induction l with
  | nil => intro a; simp [Z25d]
  | cons o r ih => intro a; unfold Z25d; rw [ih]; simp
 unfold Z267
 rw [key, List.nil_append]
theorem rSnaps2_id (z : LZ) (v : LV) (s : LS) (q : LQ) : Z26d z v s q = s := rfl
end
structure ZV (l : LZ) : Prop where
 lo : 1 ≤ l.length
 hi : l.length ≤ 16
 ok : ∀ x ∈ l, Z1f x.name = true ∧ 0 ≤ x.room ∧ x.room ≤ 1125899906842624
 nd : (l.map XZone.name).Nodup
theorem NewLF_conv : ∀ (l : LZ) (acc : LA), (Z42 l acc).1 = false → (∀ x ∈ l, Z1f x.name = true ∧ 0 ≤ x.room ∧ x.room ≤ 1125899906842624) ∧ (l.map XZone.name).Nodup ∧ ∀ x ∈ l, aget acc x.name = none
 | [], _, _ => ⟨nofun, List.nodup_nil, nofun⟩
 | o :: r, acc, h => by
  unfold Z42 at h
  simp only [Ze4, Z13b] at h
  cases hc : cond (cond (cond ((aget acc o.name).isSome) true (!(Z1f o.name))) true (decide (o.room < (0 : Int)))) true (decide (o.room > (1125899906842624 : Int))) with
  | true => rw [hc] at h; cases h
  | false =>
   rw [hc, cond_false] at h
   simp only [Bool.cond_true_left, Bool.or_eq_false_iff, decide_eq_false_iff_not, Bool.not_eq_false'] at hc
   obtain ⟨h1, h2, h3⟩ := NewLF_conv r _ h
   have hno : aget acc o.name = none := by
    have := hc.1.1.1
    cases e : aget acc o.name with
    | none => rfl
    | some y => rw [e] at this; cases this
   refine ⟨fun x hx => ?_, ?_, fun x hx => ?_⟩
   · rcases List.mem_cons.1 hx with rfl | hx
     · exact ⟨hc.1.1.2, by omega, by omega⟩
     · exact h1 x hx
   · rw [List.map_cons, List.nodup_cons]
     refine ⟨fun hm => ?_, h2⟩
     obtain ⟨x, hx, e⟩ := List.mem_map.1 hm
     have := h3 x hx
     rw [Z52, if_pos e.symm] at this
     cases this
   · rcases List.mem_cons.1 hx with rfl | hx
     · exact hno
     · have := h3 x hx
       rw [Z52] at this
       split at this
       · cases this
       · exact this
theorem new_flag (l : LZ) : (Z25 l).1 = true ↔ ZV l := by
 unfold Z25
 cases hc : cond ((l.length : Int) == (0 : Int)) true (decide ((l.length : Int) > (16 : Int))) with
 | true =>
  simp only [cond_true]
  constructor
  · intro h; cases h
  · intro h
    simp only [Bool.cond_true_left, Bool.or_eq_true, beq_iff_eq, decide_eq_true_eq] at hc
    have h1 := h.lo
    have h2 := h.hi
    omega
 | false =>
  simp only [cond_false]
  simp only [Bool.cond_true_left, Bool.or_eq_false_iff, beq_eq_false_iff_ne, decide_eq_false_iff_not] at hc
  cases hn : (Z42 l []).1 with
  | true =>
   simp only [cond_true]
   constructor
   · intro h; cases h
   · intro h
     have := (Z22c l [] [] RZ.empty h.ok (by simpa using h.nd)).1
     rw [hn] at this; cases this
  | false =>
   simp only [cond_false, true_iff]
   obtain ⟨h1, h2, _⟩ := NewLF_conv l [] hn
   exact ⟨by omega, by omega, h1, h2⟩
theorem NewL1F_iff (a : LZ) (i : Nat) : ∀ (n j : Nat), Z6e a i n j = false ↔ ∀ k, j ≤ k → k < j + n → (a.getD k default).name ≠ (a.getD i default).name
 | 0, j => by
  simp only [Z6e, true_iff]
  intro k h1 h2; omega
 | n + 1, j => by
  unfold Z6e
  by_cases h : (a.getD j default).name = (a.getD i default).name
  · rw [decide_eq_true h, cond_true]
    constructor
    · intro h; cases h
    · intro hh; exact absurd h (hh j (Nat.le_refl _) (by omega))
  · rw [decide_eq_false h, cond_false, NewL1F_iff a i n (j + 1)]
    constructor
    · intro hh k h1 h2
      rcases Nat.eq_or_lt_of_le h1 with rfl | h1
      · exact h
      · exact hh k h1 (by omega)
    · intro hh k h1 h2
      exact hh k (by omega) (by omega)
theorem rNewLF_iff (a : LZ) : ∀ (l : LZ) (i : Nat), (∀ k x, l[k]? = some x → a.getD (i + k) default = x) → (Z6b a l i = false ↔ ∀ k x, l[k]? = some x → (Z1f x.name = true ∧ 0 ≤ x.room ∧ x.room ≤ 1125899906842624) ∧ ∀ m, m < i + k → (a.getD m default).name ≠ x.name)
 | [], i, _ => by simp [Z6b]
 | o :: r, i, h => by
  have h0 := h 0 o rfl
  rw [Nat.add_zero] at h0
  have hr : ∀ k x, r[k]? = some x → a.getD (i + 1 + k) default = x := fun k x hx => by rw [Nat.add_assoc, Nat.add_comm 1]; exact h (k + 1) x (by simpa using hx)
  unfold Z6b
  rw [← Name_eq]
  cases hc : cond (cond (!(Z1f (o.name))) true (decide ((o.room) < (0 : Int)))) true (decide ((o.room) > (1125899906842624 : Int))) with
  | true =>
   rw [cond_true]
   constructor
   · intro h; cases h
   · intro hh
     obtain ⟨⟨h1, h2, h3⟩, _⟩ := hh 0 o rfl
     simp only [Bool.cond_true_left, Bool.or_eq_true, decide_eq_true_eq, Bool.not_eq_true'] at hc
     rcases hc with (hc | hc) | hc
     · rw [h1] at hc; cases hc
     · omega
     · omega
  | false =>
   rw [cond_false]
   simp only [Bool.cond_true_left, Bool.or_eq_false_iff, decide_eq_false_iff_not, Bool.not_eq_false'] at hc
   rw [show ((i : Int).toNat) = i from Int.toNat_natCast i]
   have hI := NewL1F_iff a i i 0
   cases hl : Z6e a i i 0 with
   | true =>
    rw [cond_true]
    constructor
    · intro h; cases h
    · intro hh
      have : Z6e a i i 0 = false := hI.2 fun k _ h2 => by rw [h0]; exact (hh 0 o rfl).2 k (by omega)
      rw [hl] at this; cases this
   | false =>
    rw [cond_false, rNewLF_iff a r (i + 1) hr]
    have hI := hI.1 hl
    constructor
    · intro hh k x hx
      match k, hx with
      | 0, hx =>
       simp at hx
       subst hx
       exact ⟨⟨hc.1.1, by omega, by omega⟩, fun m hm => by have := hI m (Nat.zero_le _) (by omega); rw [h0] at this; exact this⟩
      | k + 1, hx =>
       obtain ⟨q1, q2⟩ := hh k x (by simpa using hx)
       exact ⟨q1, fun m hm => q2 m (by omega)⟩
    · intro hh k x hx
      obtain ⟨q1, q2⟩ := hh (k + 1) x (by simpa using hx)
      exact ⟨q1, fun m hm => q2 m (by omega)⟩
theorem rnew_flag (l : LZ) : (Z38 l).1 = true ↔ ZV l := by
 unfold Z38
 cases hc : cond (decide ((l.length : Int) < (1 : Int))) true (decide ((l.length : Int) > (16 : Int))) with
 | true =>
  simp only [cond_true]
  constructor
  · intro h; cases h
  · intro h
    simp only [Bool.cond_true_left, Bool.or_eq_true, decide_eq_true_eq] at hc
    have h1 := h.lo
    have h2 := h.hi
    omega
 | false =>
  simp only [cond_false]
  simp only [Bool.cond_true_left, Bool.or_eq_false_iff, decide_eq_false_iff_not] at hc
  have hI := rNewLF_iff l l 0 (by intro k x hx; rw [Nat.zero_add, List.getD_eq_getElem?_getD, hx]; rfl)
  have hnd : (∀ k x, l[k]? = some x → ∀ m, m < 0 + k → (l.getD m default).name ≠ x.name) ↔ (l.map XZone.name).Nodup := by
   unfold List.Nodup
   rw [List.pairwise_map, List.pairwise_iff_getElem]
   constructor
   · intro hh i j hi hj hij
     have := hh j l[j] (List.getElem?_eq_getElem hj) i (by omega)
     rwa [List.getD_eq_getElem?_getD, List.getElem?_eq_getElem hi, Option.getD_some] at this
   · intro hh k x hx m hm
     obtain ⟨hk, rfl⟩ := List.getElem?_eq_some_iff.1 hx
     have hml : m < l.length := by omega
     have := hh m k hml hk (by omega)
     rwa [List.getD_eq_getElem?_getD, List.getElem?_eq_getElem hml, Option.getD_some]
  cases hn : Z6b l l 0 with
  | true =>
   simp only [cond_true]
   constructor
   · intro h; cases h
   · intro h
     have : Z6b l l 0 = false := hI.2 fun k x hx => ⟨h.ok x (List.mem_of_getElem? hx), hnd.2 h.nd k x hx⟩
     rw [hn] at this; cases this
  | false =>
   simp only [cond_false, true_iff]
   have hI := hI.1 hn
   refine ⟨by omega, by omega, fun x hx => ?_, hnd.1 fun k x hx => (hI k x hx).2⟩
   obtain ⟨k, hk⟩ := List.mem_iff_getElem?.1 hx
   exact (hI k x hk).1
theorem new_iv {l : LZ} (h : ZV l) : IV 0 (Z25 l).2.1 (Z25 l).2.2.1 (Z25 l).2.2.2.1 (Z25 l).2.2.2.2 (Z38 l).2.1 (Z38 l).2.2.1 (Z38 l).2.2.2.1 (Z38 l).2.2.2.2 := by
 have h1 := (new_flag l).2 h
 have h2 := (rnew_flag l).2 h
 have hs := (Z22c l [] [] RZ.empty h.ok (by simpa using h.nd)).2
 rw [List.nil_append] at hs
 unfold Z25 at h1 ⊢
 unfold Z38 at h2 ⊢
 cases hc : cond ((l.length : Int) == (0 : Int)) true (decide ((l.length : Int) > (16 : Int))) with
 | true => rw [hc] at h1; cases h1
 | false =>
  rw [hc] at h1
  simp only [cond_false] at h1 ⊢
  cases hn : (Z42 l []).1 with
  | true => rw [hn] at h1; cases h1
  | false =>
   cases hc2 : cond (decide ((l.length : Int) < (1 : Int))) true (decide ((l.length : Int) > (16 : Int))) with
   | true => rw [hc2] at h2; cases h2
   | false =>
    rw [hc2] at h2
    simp only [cond_false] at h2 ⊢
    cases hn2 : Z6b l l 0 with
    | true => rw [hn2] at h2; cases h2
    | false =>
     simp only [cond_false, List.nil_append]
     exact ⟨RR.new hs, h.hi, Nat.zero_le _, Nat.zero_le _, Nat.zero_le _, nofun, nofun⟩
end Go.Proofs.YtkledlcmhbjadaaGreat
