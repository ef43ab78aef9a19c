/- Attach: plain laws: texts in order; a search by halves; putting into a list that is in order. -/
import Derived.Test.YtbcnehpndoghcaaDPL3
set_option linter.unusedVariables false
set_option linter.unusedSimpArgs false
set_option maxRecDepth 100000
namespace Go.Proofs.Ytbcnehpndoghcaa
open Go Go.Eng
theorem bl_irrefl : ∀ l : List UInt8, Op.bytesLess l l = false
  | [] => rfl
  | a :: l => by
    have h := bl_irrefl l
    unfold Op.bytesLess
    rw [h]
    simp
theorem bl_trans : ∀ x y z : List UInt8, Op.bytesLess x y = true → Op.bytesLess y z = true → Op.bytesLess x z = true
  | _, [], _, h, _ => by unfold Op.bytesLess at h; simp at h
  | _, _ :: _, [], _, h => by unfold Op.bytesLess at h; simp at h
  | [], _ :: _, _ :: _, _, _ => rfl
  | a :: x, b :: y, c :: z, h1, h2 => by
    unfold Op.bytesLess at h1 h2 ⊢
    simp only [Bool.or_eq_true, decide_eq_true_eq, Bool.and_eq_true, beq_iff_eq, UInt8.lt_iff_toNat_lt] at h1 h2 ⊢
    rcases h1 with h1 | ⟨rfl, h1⟩
    · rcases h2 with h2 | ⟨rfl, h2⟩
      · exact .inl (by omega)
      · exact .inl h1
    · rcases h2 with h2 | ⟨rfl, h2⟩
      · exact .inl h2
      · exact .inr ⟨rfl, bl_trans x y z h1 h2⟩
theorem bl_total : ∀ x y : List UInt8, Op.bytesLess x y = false → Op.bytesLess y x = false → x = y
  | [], [], _, _ => rfl
  | [], _ :: _, h, _ => by unfold Op.bytesLess at h; simp at h
  | _ :: _, [], _, h => by unfold Op.bytesLess at h; simp at h
  | a :: x, b :: y, h1, h2 => by
    unfold Op.bytesLess at h1 h2
    simp only [Bool.or_eq_false_iff, decide_eq_false_iff_not, Bool.and_eq_false_iff, beq_eq_false_iff_ne, UInt8.lt_iff_toNat_lt] at h1 h2
    have hab : a = b := UInt8.toNat_inj.1 (by omega)
    subst hab
    rw [bl_total x y (h1.2.resolve_left (fun h => h rfl)) (h2.2.resolve_left (fun h => h rfl))]
theorem sl_irrefl (a : ByteArray) : strLess a a = false := bl_irrefl _
theorem sl_trans {a b c : ByteArray} (h1 : strLess a b = true) (h2 : strLess b c = true) : strLess a c = true := bl_trans _ _ _ h1 h2
theorem sl_total {a b : ByteArray} (h1 : strLess a b = false) (h2 : strLess b a = false) : a = b := by
  have h := toList_inj (a := a) (b := b)
  rw [bl_total _ _ h1 h2, beq_self_eq_true] at h
  exact of_decide_eq_true h.symm
theorem sl_asymm {a b : ByteArray} (h : strLess a b = true) : strLess b a = false := by
  cases h2 : strLess b a with
  | false => rfl
  | true => have := sl_trans h h2; rw [sl_irrefl] at this; cases this
theorem sl_ne {a b : ByteArray} (h : strLess a b = true) : a ≠ b := by rintro rfl; rw [sl_irrefl] at h; cases h
/-- A search by halves. -/
def bsG (p : Int → Bool) : Nat → Int → Int → Int
  | 0, _, _ => default
  | n + 1, i, j => cond (decide (i < j)) (cond (p ((i + j) / 2)) (bsG p n ((i + j) / 2 + 1) j) (bsG p n i ((i + j) / 2))) i
theorem bsG_spec (p : Int → Bool) (L : Int) (mono : ∀ a b, 0 ≤ a → a ≤ b → b < L → p b = true → p a = true) : ∀ (n : Nat) (i j : Int), 0 ≤ i → i ≤ j → j ≤ L → j - i ≤ n → (∀ k, 0 ≤ k → k < i → p k = true) → (∀ k, j ≤ k → k < L → p k = false) → 0 ≤ bsG p (n + 1) i j ∧ bsG p (n + 1) i j ≤ L ∧ (∀ k, 0 ≤ k → k < bsG p (n + 1) i j → p k = true) ∧ (∀ k, bsG p (n + 1) i j ≤ k → k < L → p k = false) := by
  intro n
  induction n with
  | zero =>
    intro i j h0 h1 h2 h3 h4 h5
    have e : bsG p 1 i j = i := by
      unfold bsG
      rw [decide_eq_false (show ¬ i < j by omega), cond_false]
    rw [e]
    exact ⟨h0, by omega, h4, fun k hk => h5 k (by omega)⟩
  | succ n ih =>
    intro i j h0 h1 h2 h3 h4 h5
    unfold bsG
    by_cases hij : i < j
    · rw [decide_eq_true hij, cond_true]
      cases hp : p ((i + j) / 2) with
      | true =>
        rw [cond_true]
        exact ih _ _ (by omega) (by omega) h2 (by omega) (fun k k0 k1 => mono k ((i + j) / 2) k0 (by omega) (by omega) hp) h5
      | false =>
        rw [cond_false]
        refine ih _ _ h0 (by omega) (by omega) (by omega) h4 (fun k k0 k1 => ?_)
        cases hk : p k with
        | false => rfl
        | true => rw [mono ((i + j) / 2) k (by omega) k0 k1 hk] at hp; cases hp
    · rw [decide_eq_false hij, cond_false]
      exact ⟨h0, by omega, h4, fun k hk => h5 k (by omega)⟩
section
variable {α : Type} (key : α → ByteArray)
def Rising (l : List α) : Prop := l.Pairwise fun a b => strLess (key a) (key b) = true
def insG (x : α) : List α → List α
  | [] => [x]
  | o :: r => cond (strLess (key o) (key x)) (o :: insG x r) (cond (decide (key o = key x)) (o :: r) (x :: o :: r))
theorem insG_mem {x y : α} : ∀ {l : List α}, y ∈ insG key x l → y = x ∨ y ∈ l
  | [], h => .inl (List.mem_singleton.1 h)
  | o :: r, h => by
    unfold insG at h
    cases h1 : strLess (key o) (key x) <;> rw [h1] at h <;> simp only [cond_true, cond_false] at h
    · cases h2 : decide (key o = key x) <;> rw [h2] at h <;> simp only [cond_true, cond_false] at h
      · rcases List.mem_cons.1 h with h | h
        · exact .inl h
        · exact .inr h
      · exact .inr h
    · rcases List.mem_cons.1 h with h | h
      · exact .inr (by rw [h]; exact List.mem_cons_self)
      · exact (insG_mem h).imp id (List.mem_cons_of_mem _)
theorem insG_rising (x : α) : ∀ l : List α, Rising key l → Rising key (insG key x l)
  | [], _ => by unfold insG Rising; simp
  | o :: r, h => by
    have h' := List.pairwise_cons.1 h
    unfold insG
    cases h1 : strLess (key o) (key x) with
    | true =>
      rw [cond_true]
      refine List.pairwise_cons.2 ⟨fun y hy => ?_, insG_rising x r h'.2⟩
      rcases insG_mem key hy with rfl | hy
      · exact h1
      · exact h'.1 y hy
    | false =>
      rw [cond_false]
      by_cases h2 : key o = key x
      · rw [decide_eq_true h2]; exact h
      · rw [decide_eq_false h2, cond_false]
        have h3 : strLess (key x) (key o) = true := by
          cases h3 : strLess (key x) (key o) with
          | true => rfl
          | false => exact absurd (sl_total h1 h3) h2
        refine List.pairwise_cons.2 ⟨fun y hy => ?_, h⟩
        rcases List.mem_cons.1 hy with rfl | hy
        · exact h3
        · exact sl_trans h3 (h'.1 y hy)
theorem rising_mono [Inhabited α] {l : List α} (h : Rising key l) {a b : Nat} (hab : a ≤ b) (hb : b < l.length) {x : ByteArray} (hx : strLess (key (l.getD b default)) x = true) : strLess (key (l.getD a default)) x = true := by
  rcases Nat.eq_or_lt_of_le hab with rfl | hlt
  · exact hx
  · refine sl_trans ?_ hx
    have := List.pairwise_iff_getElem.1 h a b (by omega) hb hlt
    rw [List.getD_eq_getElem?_getD, List.getD_eq_getElem?_getD, List.getElem?_eq_getElem hb, List.getElem?_eq_getElem (by omega : a < l.length)]
    exact this
theorem put_insG [Inhabited α] (x : α) : ∀ (l : List α) (r : Nat), r ≤ l.length → (∀ k, k < r → strLess (key (l.getD k default)) (key x) = true) → (∀ k, r ≤ k → k < l.length → strLess (key (l.getD k default)) (key x) = false) →
    (if r < l.length ∧ key (l.getD r default) = key x then l else l.take r ++ ([x] ++ l.drop r)) = insG key x l
  | [], r, h0, _, _ => by
    have : r = 0 := by simpa using h0
    subst this
    simp [insG]
  | o :: t, 0, _, _, h2 => by
    have h3 : strLess (key o) (key x) = false := h2 0 (Nat.le_refl _) (by simp)
    unfold insG
    rw [h3, cond_false]
    by_cases h4 : key o = key x
    · rw [decide_eq_true h4, cond_true, if_pos ⟨by simp, h4⟩]
    · rw [decide_eq_false h4, cond_false, if_neg (fun h => h4 h.2)]
      rfl
  | o :: t, r + 1, h0, h1, h2 => by
    have h3 : strLess (key o) (key x) = true := h1 0 (by omega)
    have ih := put_insG x t r (by simpa using h0) (fun k hk => h1 (k + 1) (by omega)) (fun k hk hl => h2 (k + 1) (by omega) (by simpa using hl))
    unfold insG
    rw [h3, cond_true, ← ih]
    by_cases h4 : r < t.length ∧ key (t.getD r default) = key x
    · rw [if_pos h4, if_pos ⟨by simpa using h4.1, h4.2⟩]
    · rw [if_neg h4, if_neg (fun h => h4 ⟨by simpa using h.1, h.2⟩)]
      rfl
end
theorem cmp_less (a b : ByteArray) : decide (cmp_Compare_stringF a b < (0 : Int)) = strLess a b := by
  unfold cmp_Compare_stringF cmp_isNaN_stringF
  rw [decide_eq_true (rfl : a = a), decide_eq_true (rfl : b = b)]
  cases h : strLess a b with
  | true => rfl
  | false =>
    cases h2 : (!(false || decide (a = b))) <;> rfl
theorem cmp_zero (a b : ByteArray) : (cmp_Compare_stringF a b == (0 : Int)) = decide (a = b) := by
  unfold cmp_Compare_stringF cmp_isNaN_stringF
  rw [decide_eq_true (rfl : a = a), decide_eq_true (rfl : b = b)]
  cases h : strLess a b with
  | true => rw [decide_eq_false (sl_ne h)]; rfl
  | false => cases h2 : decide (a = b) <;> rfl
theorem bsO_eq (x : ByteArray) (l : List XObj) : ∀ (n : Nat) (i j : Int), 0 ≤ i → i ≤ j → j ≤ 4611686018427387904 → api_Object_string_2LF x l n i j = bsG (fun k => strLess (l.getD k.toNat default).name x) n i j
  | 0, _, _, _, _, _ => rfl
  | n + 1, i, j, h0, h1, h2 => by
    unfold api_Object_string_2LF bsG
    by_cases h : i < j
    · have hm := mid_eq h0 h h2
      rw [decide_eq_true h, cond_true, cond_true, hm.1, hm.2]
      have e : decide (api_Object_string_1F (l.getD ((i + j) / 2).toNat default) x < (0 : Int)) = strLess (l.getD ((i + j) / 2).toNat default).name x := cmp_less _ _
      rw [e, bsO_eq x l n _ _ (by omega) (by omega) h2, bsO_eq x l n _ _ h0 (by omega) (by omega)]
    · rw [decide_eq_false h]; rfl
theorem bsS_eq (x : ByteArray) (l : List ByteArray) : ∀ (n : Nat) (i j : Int), 0 ≤ i → i ≤ j → j ≤ 4611686018427387904 → slices_BinarySearchFunc_string_string_stringLF x l n i j = bsG (fun k => strLess (l.getD k.toNat default) x) n i j
  | 0, _, _, _, _, _ => rfl
  | n + 1, i, j, h0, h1, h2 => by
    unfold slices_BinarySearchFunc_string_string_stringLF bsG
    by_cases h : i < j
    · have hm := mid_eq h0 h h2
      rw [decide_eq_true h, cond_true, cond_true, hm.1, hm.2]
      have e : decide (attach_put_string_string_1F (l.getD ((i + j) / 2).toNat default) x < (0 : Int)) = strLess (l.getD ((i + j) / 2).toNat default) x := cmp_less _ _
      rw [e, bsS_eq x l n _ _ (by omega) (by omega) h2, bsS_eq x l n _ _ h0 (by omega) (by omega)]
    · rw [decide_eq_false h]; rfl
theorem below_of {α : Type} [Inhabited α] (key : α → ByteArray) (x : ByteArray) {l : List α} (hl : Rising key l) (r : Int) (hr : r = bsG (fun k => strLess (key (l.getD k.toNat default)) x) (l.length + 1) 0 (l.length : Int)) : 0 ≤ r ∧ r.toNat ≤ l.length ∧ (∀ k, k < r.toNat → strLess (key (l.getD k default)) x = true) ∧ (∀ k, r.toNat ≤ k → k < l.length → strLess (key (l.getD k default)) x = false) := by
  have h := bsG_spec (fun k => strLess (key (l.getD k.toNat default)) x) (l.length : Int) (fun a b h0 h1 h2 h3 => rising_mono key hl (show a.toNat ≤ b.toNat by omega) (by omega) h3) l.length 0 (l.length : Int) (by omega) (by omega) (by omega) (by omega) (fun k h0 h1 => by omega) (fun k h0 h1 => by omega)
  rw [← hr] at h
  obtain ⟨h0, h1, h2, h3⟩ := h
  exact ⟨h0, by omega, fun k hk => h2 (k : Int) (by omega) (by omega), fun k hk hl => h3 (k : Int) (by omega) (by omega)⟩
theorem putO_eq (x : XObj) (l : List XObj) (hl : Rising XObj.name l) (hs : l.length ≤ 64) : api_Object_stringF x l = insG XObj.name x l := by
  have e := bsO_eq x.name l (l.length + 1) 0 (l.length : Int) (by omega) (by omega) (by omega)
  obtain ⟨h0, h1, h2, h3⟩ := below_of XObj.name x.name hl _ e
  rw [← put_insG XObj.name x l _ h1 h2 h3]
  unfold api_Object_stringF
  rw [show attach_Attachments_1F x = x.name from rfl]
  have e2 : (api_Object_string_2F x.name l).2 = decide ((api_Object_string_2LF x.name l (l.length + 1) (0 : Int) (l.length : Int)).toNat < l.length ∧ (l.getD (api_Object_string_2LF x.name l (l.length + 1) (0 : Int) (l.length : Int)).toNat default).name = x.name) := by
    have e3 : ∀ k, (api_Object_string_1F (l.getD k default) x.name == (0 : Int)) = decide ((l.getD k default).name = x.name) := fun k => cmp_zero _ _
    unfold api_Object_string_2F
    dsimp only
    rw [e3]
    generalize api_Object_string_2LF x.name l (l.length + 1) (0 : Int) (l.length : Int) = r at h0
    by_cases h : r.toNat < l.length
    · rw [decide_eq_true (show r < (l.length : Int) by omega), cond_true]
      simp [h]
    · rw [decide_eq_false (show ¬ r < (l.length : Int) by omega), cond_false]
      simp [h]
  rw [e2]
  rw [show (api_Object_string_2F x.name l).1 = api_Object_string_2LF x.name l (l.length + 1) (0 : Int) (l.length : Int) from rfl]
  split
  · rename_i h; rw [decide_eq_true h]; rfl
  · rename_i h; rw [decide_eq_false h]; rfl
theorem putS_eq (x : ByteArray) (l : List ByteArray) (hl : Rising id l) (hs : l.length ≤ 64) : attach_put_string_stringF x l = insG id x l := by
  have e := bsS_eq x l (l.length + 1) 0 (l.length : Int) (by omega) (by omega) (by omega)
  obtain ⟨h0, h1, h2, h3⟩ := below_of id x hl _ e
  rw [← put_insG id x l _ h1 h2 h3]
  unfold attach_put_string_stringF
  rw [show attach_Wanted_1F x = x from rfl]
  have e2 : (slices_BinarySearchFunc_string_string_stringF x l).2 = decide ((slices_BinarySearchFunc_string_string_stringLF x l (l.length + 1) (0 : Int) (l.length : Int)).toNat < l.length ∧ id (l.getD (slices_BinarySearchFunc_string_string_stringLF x l (l.length + 1) (0 : Int) (l.length : Int)).toNat default) = id x) := by
    have e3 : ∀ k, (attach_put_string_string_1F (l.getD k default) x == (0 : Int)) = decide (id (l.getD k default) = id x) := fun k => cmp_zero _ _
    unfold slices_BinarySearchFunc_string_string_stringF
    dsimp only
    rw [e3]
    generalize slices_BinarySearchFunc_string_string_stringLF x l (l.length + 1) (0 : Int) (l.length : Int) = r at h0
    by_cases h : r.toNat < l.length
    · rw [decide_eq_true (show r < (l.length : Int) by omega), cond_true]
      simp [h]
    · rw [decide_eq_false (show ¬ r < (l.length : Int) by omega), cond_false]
      simp [h]
  rw [e2]
  rw [show (slices_BinarySearchFunc_string_string_stringF x l).1 = slices_BinarySearchFunc_string_string_stringLF x l (l.length + 1) (0 : Int) (l.length : Int) from rfl]
  split
  · rename_i h; rw [decide_eq_true h]; rfl
  · rename_i h; rw [decide_eq_false h]; rfl
end Go.Proofs.Ytbcnehpndoghcaa
