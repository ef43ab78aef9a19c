/- Topo: by hand: words; what rises; what is right, in plain words. -/
import Derived.Test.YtbjlmmeabonbpaaDoorDRight
import Derived.Test.YtbjlmmeabonbpaaDoorDH1
set_option linter.unusedVariables false
set_option linter.unusedSimpArgs false
set_option maxRecDepth 100000
namespace Go.Proofs.YtbjlmmeabonbpaaDoor
open Go Go.Eng
theorem cond_and (a b : Bool) : cond a b false = (a && b) := by cases a <;> rfl
theorem cond_or (a b : Bool) : cond a true b = (a || b) := by cases a <;> rfl
theorem cond_not (a b : Bool) : cond a false b = (!a && b) := by cases a <;> rfl
theorem cond_ft (a : Bool) : cond a false true = !a := by cases a <;> rfl
/-! ### Texts in their order -/
theorem bl_irrefl : ∀ l : List UInt8, Op.bytesLess l l = false
  | [] => rfl
  | a :: l => by
    have h := bl_irrefl l
    unfold Op.bytesLess
    rw [h]
    simp
theorem bl_trans : ∀ x y z : List UInt8, Op.bytesLess x y = true → Op.bytesLess y z = true → Op.bytesLess x z = true
  | _, [], _, h, _ => by unfold Op.bytesLess at h; simp at h
  | _, _ :: _, [], _, h => by unfold Op.bytesLess at h; simp at h
  | [], _ :: _, _ :: _, _, _ => rfl
  | a :: x, b :: y, c :: z, h1, h2 => by
    unfold Op.bytesLess at h1 h2 ⊢
    simp only [Bool.or_eq_true, decide_eq_true_eq, Bool.and_eq_true, beq_iff_eq, UInt8.lt_iff_toNat_lt] at h1 h2 ⊢
    rcases h1 with h1 | ⟨rfl, h1⟩
    · rcases h2 with h2 | ⟨rfl, h2⟩
      · exact .inl (by omega)
      · exact .inl h1
    · rcases h2 with h2 | ⟨rfl, h2⟩
      · exact .inl h2
      · exact .inr ⟨rfl, bl_trans x y z h1 h2⟩
theorem bl_total : ∀ x y : List UInt8, Op.bytesLess x y = false → Op.bytesLess y x = false → x = y
  | [], [], _, _ => rfl
  | [], _ :: _, h, _ => by unfold Op.bytesLess at h; simp at h
  | _ :: _, [], _, h => by unfold Op.bytesLess at h; simp at h
  | a :: x, b :: y, h1, h2 => by
    unfold Op.bytesLess at h1 h2
    simp only [Bool.or_eq_false_iff, decide_eq_false_iff_not, Bool.and_eq_false_iff, beq_eq_false_iff_ne, UInt8.lt_iff_toNat_lt] at h1 h2
    have hab : a = b := UInt8.toNat_inj.1 (by omega)
    subst hab
    rw [bl_total x y (h1.2.resolve_left (fun h => h rfl)) (h2.2.resolve_left (fun h => h rfl))]
theorem sl_irrefl (a : ByteArray) : strLess a a = false := bl_irrefl _
theorem sl_trans {a b c : ByteArray} (h1 : strLess a b = true) (h2 : strLess b c = true) : strLess a c = true := bl_trans _ _ _ h1 h2
theorem sl_total {a b : ByteArray} (h1 : strLess a b = false) (h2 : strLess b a = false) : a = b := by
  have h := toList_inj (a := a) (b := b)
  rw [bl_total _ _ h1 h2, beq_self_eq_true] at h
  exact of_decide_eq_true h.symm
theorem sl_asymm {a b : ByteArray} (h : strLess a b = true) : strLess b a = false := by
  cases h2 : strLess b a with
  | false => rfl
  | true => have := sl_trans h h2; rw [sl_irrefl] at this; cases this
theorem sl_ne {a b : ByteArray} (h : strLess a b = true) : a ≠ b := by rintro rfl; rw [sl_irrefl] at h; cases h
theorem sl_not (a b : ByteArray) : (strLess a b || decide (a = b)) = !(strLess b a) := by
  cases h1 : strLess a b with
  | true => rw [sl_asymm h1]; rfl
  | false =>
    cases h2 : strLess b a with
    | true => rw [decide_eq_false (sl_ne h2).symm]; rfl
    | false => rw [decide_eq_true (sl_total h1 h2)]; rfl
/-! ### Words -/
def okw (b : UInt8) : Bool := (decide (97 ≤ b.toNat) && decide (b.toNat ≤ 122)) || (decide (48 ≤ b.toNat) && decide (b.toNat ≤ 57)) || b.toNat == 45
/-- A word. -/
def Wd (s : ByteArray) : Prop := (∀ b ∈ s.data.toList, okw b = true) ∧ 1 ≤ s.size ∧ s.size ≤ 24
theorem size_list (s : ByteArray) : s.data.toList.length = s.size := by simp
theorem byteAt_get (a : ByteArray) (j : Nat) (h : j < a.size) : byteAt a (j : Int) = ((a.data.toList[j]'(by rw [size_list]; exact h)).toNat : Int) := by
  unfold byteAt
  have h' : j < a.data.size := h
  rw [Int.toNat_natCast, Array.getD_eq_getD_getElem?, Array.getElem?_eq_getElem h', Option.getD_some]
  simp
theorem get_get (a : ByteArray) (j : Nat) (h : j < a.size) : a.get! j = a.data.toList[j]'(by rw [size_list]; exact h) := by
  have h' : j < a.data.size := h
  show a.data[j]! = _
  rw [getElem!_pos a.data j h']
  simp
theorem r02_WordLF_iff (a : ByteArray) : ∀ (n i : Nat), i + n = a.size → (r02_WordLF a n i = false ↔ ∀ j (h : j < a.data.toList.length), i ≤ j → okw (a.data.toList[j]) = true)
  | 0, i, hn => ⟨fun _ j h1 h2 => by rw [size_list] at h1; omega, fun _ => rfl⟩
  | n + 1, i, hn => by
    have hi : i < a.size := by omega
    have ih := r02_WordLF_iff a n (i + 1) (by omega)
    unfold r02_WordLF
    rw [byteAt_get a i hi]
    have e : (cond (cond (cond (decide (((a.data.toList[i]'(by rw [size_list]; exact hi)).toNat : Int) ≥ (97 : Int))) (decide (((a.data.toList[i]'(by rw [size_list]; exact hi)).toNat : Int) ≤ (122 : Int))) false) true (cond (decide (((a.data.toList[i]'(by rw [size_list]; exact hi)).toNat : Int) ≥ (48 : Int))) (decide (((a.data.toList[i]'(by rw [size_list]; exact hi)).toNat : Int) ≤ (57 : Int))) false)) true (((a.data.toList[i]'(by rw [size_list]; exact hi)).toNat : Int) == (45 : Int))) = okw (a.data.toList[i]'(by rw [size_list]; exact hi)) := by
      unfold okw
      simp only [cond_and, cond_or]
      generalize (a.data.toList[i]'(by rw [size_list]; exact hi)).toNat = k
      have h1 : decide ((k : Int) ≥ 97) = decide (97 ≤ k) := decide_eq_decide.2 (by omega)
      have h2 : decide ((k : Int) ≤ 122) = decide (k ≤ 122) := decide_eq_decide.2 (by omega)
      have h3 : decide ((k : Int) ≥ 48) = decide (48 ≤ k) := decide_eq_decide.2 (by omega)
      have h4 : decide ((k : Int) ≤ 57) = decide (k ≤ 57) := decide_eq_decide.2 (by omega)
      have h5 : ((k : Int) == 45) = (k == 45) := by rw [Bool.eq_iff_iff, beq_iff_eq, beq_iff_eq]; omega
      rw [h1, h2, h3, h4, h5]
    rw [e]
    cases h : okw (a.data.toList[i]'(by rw [size_list]; exact hi)) with
    | false =>
      simp only [Bool.not_false, cond_true]
      exact ⟨fun h => (by cases h), fun h2 => (by rw [h2 i (by rw [size_list]; exact hi) (Nat.le_refl _)] at h; cases h)⟩
    | true =>
      simp only [Bool.not_true, cond_false]
      rw [ih]
      refine ⟨fun h2 j h3 h4 => ?_, fun h2 j h3 h4 => h2 j h3 (by omega)⟩
      by_cases e : j = i
      · subst e; exact h
      · exact h2 j h3 (by omega)
theorem all_get (a : ByteArray) : (∀ j (h : j < a.data.toList.length), 0 ≤ j → okw (a.data.toList[j]) = true) ↔ ∀ b ∈ a.data.toList, okw b = true := by
  constructor
  · intro h b hb
    obtain ⟨j, hj, rfl⟩ := List.mem_iff_getElem.1 hb
    exact h j hj (Nat.zero_le _)
  · intro h j hj _
    exact h _ (List.getElem_mem _)
theorem r02_Word_iff (a : ByteArray) : r02_WordF a = true ↔ Wd a := by
  unfold r02_WordF Wd
  have h1 := r02_WordLF_iff a a.size 0 (by omega)
  rw [all_get] at h1
  cases h3 : r02_WordLF a a.size 0 with
  | true =>
    rw [cond_true]
    exact ⟨fun h => (by cases h), fun h => (by rw [h1.2 h.1] at h3; cases h3)⟩
  | false =>
    rw [cond_false, cond_and, Bool.and_eq_true, decide_eq_true_eq, decide_eq_true_eq]
    have := h1.1 h3
    exact ⟨fun h => ⟨this, by omega, by omega⟩, fun h => ⟨by omega, by omega⟩⟩
theorem decode_ascii (a : ByteArray) (i : Nat) (h : (a.get! i).toNat < 128) : Utf8.decode a i = ((a.get! i).toNat, 1) := by
  unfold Utf8.decode
  simp only [Nat.add_zero]
  rw [if_pos h]
theorem topo_WordLF_iff (a : ByteArray) : ∀ (n i : Nat), a.size - i = n → (topo_WordLF a i = false ↔ ∀ j (h : j < a.data.toList.length), i ≤ j → okw (a.data.toList[j]) = true) := by
  intro n
  induction n using Nat.strongRecOn with
  | ind n ih =>
    intro i hn
    rw [topo_WordLF]
    by_cases hi : i < a.size
    · rw [dif_pos hi]
      have hg := get_get a i hi
      have okk : ∀ k : Nat, (cond (cond (!((k : Int) == (45 : Int))) (cond (decide ((k : Int) < (97 : Int))) true (decide ((k : Int) > (122 : Int)))) false) (cond (decide ((k : Int) < (48 : Int))) true (decide ((k : Int) > (57 : Int)))) false) = !((decide (97 ≤ k) && decide (k ≤ 122)) || (decide (48 ≤ k) && decide (k ≤ 57)) || k == 45) := by
        intro k
        simp only [cond_and, cond_or]
        have h1 : decide ((k : Int) < 97) = !decide (97 ≤ k) := by rw [← decide_not]; exact decide_eq_decide.2 (by omega)
        have h2 : decide ((k : Int) > 122) = !decide (k ≤ 122) := by rw [← decide_not]; exact decide_eq_decide.2 (by omega)
        have h3 : decide ((k : Int) < 48) = !decide (48 ≤ k) := by rw [← decide_not]; exact decide_eq_decide.2 (by omega)
        have h4 : decide ((k : Int) > 57) = !decide (k ≤ 57) := by rw [← decide_not]; exact decide_eq_decide.2 (by omega)
        have h5 : ((k : Int) == 45) = (k == 45) := by rw [Bool.eq_iff_iff, beq_iff_eq, beq_iff_eq]; omega
        rw [h1, h2, h3, h4, h5]
        cases decide (97 ≤ k) <;> cases decide (k ≤ 122) <;> cases decide (48 ≤ k) <;> cases decide (k ≤ 57) <;> cases (k == 45) <;> rfl
      rw [okk]
      by_cases hb : (a.get! i).toNat < 128
      · rw [decode_ascii a i hb]
        have e : ((decide (97 ≤ (a.get! i).toNat) && decide ((a.get! i).toNat ≤ 122)) || (decide (48 ≤ (a.get! i).toNat) && decide ((a.get! i).toNat ≤ 57)) || (a.get! i).toNat == 45) = okw (a.get! i) := rfl
        rw [e, hg]
        cases h : okw (a.data.toList[i]'(by rw [size_list]; exact hi)) with
        | false =>
          rw [Bool.not_false, cond_true]
          exact ⟨fun h => (by cases h), fun h2 => (by rw [h2 i (by rw [size_list]; exact hi) (Nat.le_refl _)] at h; cases h)⟩
        | true =>
          rw [Bool.not_true, cond_false]
          rw [ih (a.size - (i + 1)) (by omega) (i + 1) rfl]
          refine ⟨fun h2 j h3 h4 => ?_, fun h2 j h3 h4 => h2 j h3 (by omega)⟩
          by_cases e : j = i
          · subst e; exact h
          · exact h2 j h3 (by omega)
      · have hbig := decode_big a i hb
        have e : ((decide (97 ≤ (Utf8.decode a i).1) && decide ((Utf8.decode a i).1 ≤ 122)) || (decide (48 ≤ (Utf8.decode a i).1) && decide ((Utf8.decode a i).1 ≤ 57)) || (Utf8.decode a i).1 == 45) = false := by
          rw [decide_eq_false (show ¬ (Utf8.decode a i).1 ≤ 122 by omega), decide_eq_false (show ¬ (Utf8.decode a i).1 ≤ 57 by omega), beq_eq_false_iff_ne.2 (show (Utf8.decode a i).1 ≠ 45 by omega)]
          simp
        rw [e, Bool.not_false, cond_true]
        refine ⟨fun h => (by cases h), fun h2 => ?_⟩
        have h3 := h2 i (by rw [size_list]; exact hi) (Nat.le_refl _)
        rw [← hg] at h3
        unfold okw at h3
        rw [decide_eq_false (show ¬ (a.get! i).toNat ≤ 122 by omega), decide_eq_false (show ¬ (a.get! i).toNat ≤ 57 by omega), beq_eq_false_iff_ne.2 (show (a.get! i).toNat ≠ 45 by omega)] at h3
        simp at h3
    · rw [dif_neg hi]
      exact ⟨fun _ j h1 h2 => (by rw [size_list] at h1; omega), fun _ => rfl⟩
theorem empty_iff (a : ByteArray) : (!(decide (a = (⟨#[]⟩ : ByteArray)))) = decide (1 ≤ a.size) := by
  by_cases q : a = ⟨#[]⟩
  · subst q; rfl
  · rw [decide_eq_false q]
    have : a.size ≠ 0 := fun z => q (ByteArray.ext (Array.eq_empty_of_size_eq_zero z))
    rw [decide_eq_true (show 1 ≤ a.size by omega)]
    rfl
theorem topo_Word_iff (a : ByteArray) : topo_WordF a = true ↔ Wd a := by
  unfold topo_WordF Wd
  have h1 := topo_WordLF_iff a a.size 0 (by omega)
  rw [all_get] at h1
  cases h3 : topo_WordLF a 0 with
  | true =>
    rw [cond_true]
    exact ⟨fun h => (by cases h), fun h => (by rw [h1.2 h.1] at h3; cases h3)⟩
  | false =>
    rw [cond_false, cond_and, empty_iff, Bool.and_eq_true, decide_eq_true_eq, decide_eq_true_eq]
    have := h1.1 h3
    exact ⟨fun h => ⟨this, by omega, by omega⟩, fun h => ⟨by omega, by omega⟩⟩
theorem word_eq (a : ByteArray) : topo_WordF a = r02_WordF a := by rw [Bool.eq_iff_iff, topo_Word_iff, r02_Word_iff]
/-! ### What rises -/
def Up (l : List ByteArray) : Prop := l.Pairwise fun a b => strLess a b = true
/-- Words that rise, behind one that was. -/
def chk (p : Option ByteArray) : List ByteArray → Bool
  | [] => true
  | o :: r => topo_WordF o && (match p with | none => true | some q => strLess q o) && chk (some o) r
theorem chk_iff : ∀ (l : List ByteArray) (p : Option ByteArray), chk p l = true ↔ (∀ s ∈ l, Wd s) ∧ Up l ∧ ∀ q, p = some q → ∀ s ∈ l, strLess q s = true
  | [], p => by unfold chk Up; simp
  | o :: r, p => by
    unfold chk
    rw [Bool.and_eq_true, Bool.and_eq_true, chk_iff r (some o), topo_Word_iff]
    unfold Up
    rw [List.pairwise_cons]
    constructor
    · rintro ⟨⟨h1, h2⟩, h3, h4, h5⟩
      refine ⟨fun s hs => ?_, ⟨h5 o rfl, h4⟩, fun q hq s hs => ?_⟩
      · rcases List.mem_cons.1 hs with rfl | hs
        · exact h1
        · exact h3 s hs
      · subst hq
        rcases List.mem_cons.1 hs with rfl | hs
        · exact h2
        · exact sl_trans h2 (h5 o rfl s hs)
    · rintro ⟨h1, ⟨h2, h3⟩, h4⟩
      refine ⟨⟨h1 o List.mem_cons_self, ?_⟩, fun s hs => h1 s (List.mem_cons_of_mem _ hs), h3, fun q hq s hs => ?_⟩
      · cases p with
        | none => rfl
        | some q => exact h4 q rfl o List.mem_cons_self
      · injection hq with hq
        subst hq
        exact h2 s hs
def prevOf (a : List ByteArray) (i : Nat) : Option ByteArray := if i = 0 then none else some (a.getD (i - 1) default)
theorem prev_succ {a r : List ByteArray} {o : ByteArray} {i : Nat} (h : a.drop i = o :: r) : prevOf a (i + 1) = some o ∧ a.drop (i + 1) = r ∧ i < a.length := by
  have h1 : i < a.length := by
    rcases Nat.lt_or_ge i a.length with q | q
    · exact q
    · rw [List.drop_eq_nil_of_le q] at h; cases h
  rw [List.drop_eq_getElem_cons h1] at h
  obtain ⟨h2, h3⟩ := List.cons.inj h
  refine ⟨?_, h3, h1⟩
  unfold prevOf
  rw [if_neg (by omega), Nat.add_sub_cancel, List.getD_eq_getElem?_getD, List.getElem?_eq_getElem h1]
  exact congrArg some h2
theorem wrap_prev {i : Nat} (h : 0 < i) (hb : i < 4611686018427387904) : (IntKind.i64.wrap ((i : Int) - (1 : Int))).toNat = i - 1 := by
  rw [IntKind.wrap_i64]; omega
theorem risingLF_eq (a : List ByteArray) (ha : a.length < 4611686018427387904) : ∀ (l : List ByteArray) (i : Nat), a.drop i = l → topo_risingLF a l i = !(chk (prevOf a i) l)
  | [], i, _ => rfl
  | o :: r, i, h => by
    obtain ⟨h1, h2, h3⟩ := prev_succ h
    unfold topo_risingLF chk
    rw [risingLF_eq a ha r (i + 1) h2, h1]
    rcases Nat.eq_zero_or_pos i with h0 | h0
    · subst h0
      show cond (cond (!(topo_WordF o)) true false) true (!(chk (some o) r)) = !(topo_WordF o && true && chk (some o) r)
      cases topo_WordF o <;> simp
    · have e : prevOf a i = some (a.getD (i - 1) default) := by unfold prevOf; rw [if_neg (by omega)]
      rw [decide_eq_true (show (i : Int) > 0 by omega), wrap_prev h0 (by omega), e]
      show cond (cond (!(topo_WordF o)) true (!(strLess (a.getD (i - 1) default) o))) true (!(chk (some o) r)) = !(topo_WordF o && strLess (a.getD (i - 1) default) o && chk (some o) r)
      cases topo_WordF o <;> cases strLess (a.getD (i - 1) default) o <;> simp
theorem rising_iff (a : List ByteArray) (ha : a.length < 4611686018427387904) : topo_risingF a = true ↔ (∀ s ∈ a, Wd s) ∧ Up a := by
  unfold topo_risingF
  rw [risingLF_eq a ha a 0 rfl, cond_ft, Bool.not_not, chk_iff]
  exact ⟨fun h => ⟨h.1, h.2.1⟩, fun h => ⟨h.1, h.2, fun q hq => by cases hq⟩⟩
/-! ### What is right -/
def RLb (x : XLabel) : Prop := Wd x.key ∧ Wd x.value
def RightL (l : List XLabel) : Prop := (∀ x ∈ l, RLb x) ∧ Up (l.map XLabel.key) ∧ l.length ≤ 8
def RTm (t : XTerm) : Prop := Wd t.key ∧ 1 ≤ t.values.length ∧ t.values.length ≤ 8 ∧ (∀ v ∈ t.values, Wd v) ∧ Up t.values
def RightT (l : List XTerm) : Prop := (∀ t ∈ l, RTm t) ∧ Up (l.map XTerm.key) ∧ l.length ≤ 8
theorem idxL_none : ∀ (l : List XLabel) (i : Nat), ((topo_Label_4LF l i).1 = true → 0 ≤ (topo_Label_4LF l i).2) ∧ ((topo_Label_4LF l i).1 = false ↔ ∀ x ∈ l, Wd x.value)
  | [], i => by unfold topo_Label_4LF; simp
  | o :: r, i => by
    unfold topo_Label_4LF topo_rightLabels_1F
    cases h : topo_WordF o.value with
    | false =>
      rw [Bool.not_false, cond_true]
      refine ⟨fun _ => by show (0 : Int) ≤ (i : Int); omega, fun h => (by cases h), fun h2 => ?_⟩
      rw [(topo_Word_iff _).2 (h2 o List.mem_cons_self)] at h
      cases h
    | true =>
      rw [Bool.not_true, cond_false]
      obtain ⟨h1, h2⟩ := idxL_none r (i + 1)
      refine ⟨h1, h2.trans ⟨fun h3 x hx => ?_, fun h3 x hx => h3 x (List.mem_cons_of_mem _ hx)⟩⟩
      rcases List.mem_cons.1 hx with rfl | hx
      · exact (topo_Word_iff _).1 h
      · exact h3 x hx
theorem idxL_iff (l : List XLabel) : decide (topo_Label_4F l < (0 : Int)) = true ↔ ∀ x ∈ l, Wd x.value := by
  obtain ⟨h1, h2⟩ := idxL_none l 0
  unfold topo_Label_4F
  cases h : (topo_Label_4LF l 0).1 with
  | true =>
    rw [cond_true, decide_eq_true_eq]
    have := h1 h
    refine ⟨fun h => by omega, fun h3 => ?_⟩
    rw [h2.2 h3] at h
    cases h
  | false =>
    rw [cond_false]
    exact ⟨fun _ => h2.1 h, fun _ => rfl⟩
theorem rightLabels_iff (l : List XLabel) (hl : l.length ≤ 4294967296) : topo_rightLabelsF l = true ↔ RightL l := by
  unfold topo_rightLabelsF RightL RLb
  rw [cond_and, cond_and, Bool.and_eq_true, Bool.and_eq_true, idxL_iff, keysL_eq, rising_iff _ (by rw [List.length_map]; omega), decide_eq_true_eq]
  constructor
  · rintro ⟨⟨h1, h2⟩, h3, h4⟩
    exact ⟨fun x hx => ⟨h3 _ (List.mem_map.2 ⟨x, hx, rfl⟩), h1 x hx⟩, h4, by omega⟩
  · rintro ⟨h1, h2, h3⟩
    refine ⟨⟨fun x hx => (h1 x hx).2, by omega⟩, fun s hs => ?_, h2⟩
    obtain ⟨x, hx, rfl⟩ := List.mem_map.1 hs
    exact (h1 x hx).1
theorem right_1_iff (k : ByteArray) (v : List ByteArray) (hv : v.length < 4611686018427387904) : topo_right_1F k v = false ↔ 1 ≤ v.length ∧ v.length ≤ 8 ∧ (∀ s ∈ v, Wd s) ∧ Up v := by
  unfold topo_right_1F
  rw [cond_or, cond_or, Bool.or_eq_false_iff, Bool.or_eq_false_iff, Bool.not_eq_false', rising_iff v hv, beq_eq_false_iff_ne, decide_eq_false_iff_not]
  exact ⟨fun ⟨⟨h1, h2⟩, h3⟩ => ⟨by omega, by omega, h3⟩, fun ⟨h1, h2, h3⟩ => ⟨⟨by omega, by omega⟩, h3⟩⟩
theorem idxT_none : ∀ (l : List XTerm) (i : Nat), (∀ t ∈ l, t.values.length < 4611686018427387904) → ((topo_Term_2LF l i).1 = true → 0 ≤ (topo_Term_2LF l i).2) ∧ ((topo_Term_2LF l i).1 = false ↔ ∀ t ∈ l, 1 ≤ t.values.length ∧ t.values.length ≤ 8 ∧ (∀ s ∈ t.values, Wd s) ∧ Up t.values)
  | [], i, _ => by unfold topo_Term_2LF; simp
  | o :: r, i, hl => by
    have h0 := right_1_iff o.key o.values (hl o List.mem_cons_self)
    unfold topo_Term_2LF
    cases h : topo_right_1F o.key o.values with
    | true =>
      rw [cond_true]
      refine ⟨fun _ => by show (0 : Int) ≤ (i : Int); omega, fun h => (by cases h), fun h2 => ?_⟩
      rw [h0.2 (h2 o List.mem_cons_self)] at h
      cases h
    | false =>
      rw [cond_false]
      obtain ⟨h1, h2⟩ := idxT_none r (i + 1) (fun t ht => hl t (List.mem_cons_of_mem _ ht))
      refine ⟨h1, h2.trans ⟨fun h3 x hx => ?_, fun h3 x hx => h3 x (List.mem_cons_of_mem _ hx)⟩⟩
      rcases List.mem_cons.1 hx with rfl | hx
      · exact h0.1 h
      · exact h3 x hx
theorem idxT_iff (l : List XTerm) (hl : ∀ t ∈ l, t.values.length < 4611686018427387904) : decide (topo_Term_2F l < (0 : Int)) = true ↔ ∀ t ∈ l, 1 ≤ t.values.length ∧ t.values.length ≤ 8 ∧ (∀ s ∈ t.values, Wd s) ∧ Up t.values := by
  obtain ⟨h1, h2⟩ := idxT_none l 0 hl
  unfold topo_Term_2F
  cases h : (topo_Term_2LF l 0).1 with
  | true =>
    rw [cond_true, decide_eq_true_eq]
    have := h1 h
    refine ⟨fun h => by omega, fun h3 => ?_⟩
    rw [h2.2 h3] at h
    cases h
  | false =>
    rw [cond_false]
    exact ⟨fun _ => h2.1 h, fun _ => rfl⟩
theorem right_iff (l : List XTerm) (hl : l.length ≤ 4294967296) (hf : ∀ t ∈ l, t.Fine) : topo_rightF l = true ↔ RightT l := by
  unfold topo_rightF RightT RTm
  rw [cond_and, cond_and, Bool.and_eq_true, Bool.and_eq_true, idxT_iff l (fun t ht => (hf t ht).2.1), keysT_eq, rising_iff _ (by rw [List.length_map]; omega), decide_eq_true_eq]
  constructor
  · rintro ⟨⟨h1, h2⟩, h3, h4⟩
    exact ⟨fun x hx => ⟨h3 _ (List.mem_map.2 ⟨x, hx, rfl⟩), h1 x hx⟩, h4, by omega⟩
  · rintro ⟨h1, h2, h3⟩
    refine ⟨⟨fun x hx => (h1 x hx).2, by omega⟩, fun s hs => ?_, h2⟩
    obtain ⟨x, hx, rfl⟩ := List.mem_map.1 hs
    exact (h1 x hx).1
/-! ### The same, as the document says -/
theorem r02_keysLF (keys : List ByteArray) (hk : keys.length < 4611686018427387904) (o : ByteArray) (r : List ByteArray) (i : Nat) (h : keys.drop i = o :: r) :
    cond (decide ((i : Int) > (0 : Int))) (strLess o (keys.getD ((IntKind.i64.wrap ((i : Int) - (1 : Int))).toNat) default) || decide (o = keys.getD ((IntKind.i64.wrap ((i : Int) - (1 : Int))).toNat) default)) false = !(match prevOf keys i with | none => true | some q => strLess q o) := by
  obtain ⟨_, _, h3⟩ := prev_succ h
  rcases Nat.eq_zero_or_pos i with h0 | h0
  · subst h0; rfl
  · have e : prevOf keys i = some (keys.getD (i - 1) default) := by unfold prevOf; rw [if_neg (by omega)]
    rw [decide_eq_true (show (i : Int) > 0 by omega), wrap_prev h0 (by omega), e, cond_true, sl_not]
theorem getD_map {α : Type} [Inhabited α] (f : α → ByteArray) (l : List α) (i : Nat) (h : i < l.length) : f (l.getD i default) = (l.map f).getD i default := by
  rw [List.getD_eq_getElem?_getD, List.getD_eq_getElem?_getD, List.getElem?_map, List.getElem?_eq_getElem h]
  rfl
theorem r02_RightLabelsLF_eq (a : List XLabel) (ha : a.length < 4611686018427387904) : ∀ (l : List XLabel) (i : Nat), a.drop i = l → r02_RightLabelsLF a l i = !(chk (prevOf (a.map XLabel.key) i) (l.map XLabel.key) && l.all fun x => topo_WordF x.value)
  | [], i, _ => rfl
  | o :: r, i, h => by
    have hd : (a.map XLabel.key).drop i = o.key :: r.map XLabel.key := by rw [← List.map_drop, h]; rfl
    obtain ⟨h1, h2, h3⟩ := prev_succ hd
    have h2' : a.drop (i + 1) = r := by
      have hi : i < a.length := by rw [List.length_map] at h3; exact h3
      rw [List.drop_eq_getElem_cons hi] at h
      exact (List.cons.inj h).2
    unfold r02_RightLabelsLF
    rw [List.map_cons]
    unfold chk
    rw [r02_RightLabelsLF_eq a ha r (i + 1) h2', h1, ← word_eq, ← word_eq, List.all_cons]
    have e : (cond (decide ((i : Int) > (0 : Int))) (strLess (o.key) ((a.getD ((IntKind.i64.wrap ((i : Int) - (1 : Int))).toNat) default).key) || decide ((o.key) = ((a.getD ((IntKind.i64.wrap ((i : Int) - (1 : Int))).toNat) default).key))) false) = !(match prevOf (a.map XLabel.key) i with | none => true | some q => strLess q o.key) := by
      rw [← r02_keysLF (a.map XLabel.key) (by rw [List.length_map]; exact ha) o.key _ i hd]
      rcases Nat.eq_zero_or_pos i with h0 | h0
      · subst h0; rfl
      · rw [List.length_map] at h3
        rw [wrap_prev h0 (by omega), getD_map XLabel.key a (i - 1) (by omega)]
    rw [e]
    generalize (match prevOf (a.map XLabel.key) i with | none => true | some q => strLess q o.key) = b1
    cases topo_WordF o.key <;> cases topo_WordF o.value <;> cases b1 <;> cases chk (some o.key) (r.map XLabel.key) <;> cases (r.all fun x => topo_WordF x.value) <;> rfl
theorem r02_RightLabels_iff (l : List XLabel) (hl : l.length ≤ 4294967296) : r02_RightLabelsF l = true ↔ RightL l := by
  unfold r02_RightLabelsF RightL RLb
  rw [r02_RightLabelsLF_eq l (by omega) l 0 rfl, cond_not, Bool.not_not, Bool.and_eq_true, Bool.and_eq_true, chk_iff, List.all_eq_true, decide_eq_true_eq]
  constructor
  · rintro ⟨⟨⟨h1, h2, _⟩, h3⟩, h4⟩
    exact ⟨fun x hx => ⟨h1 _ (List.mem_map.2 ⟨x, hx, rfl⟩), (topo_Word_iff _).1 (h3 x hx)⟩, h2, by omega⟩
  · rintro ⟨h1, h2, h3⟩
    refine ⟨⟨⟨fun s hs => ?_, h2, fun q hq => by cases hq⟩, fun x hx => (topo_Word_iff _).2 (h1 x hx).2⟩, by omega⟩
    obtain ⟨x, hx, rfl⟩ := List.mem_map.1 hs
    exact (h1 x hx).1
theorem r02_RightTermsL1F_eq (a : List XTerm) (i : Nat) (vs : List ByteArray) (hv : (a.getD i default).values = vs) (hl : vs.length < 4611686018427387904) : ∀ (l : List ByteArray) (j : Nat), vs.drop j = l → r02_RightTermsL1F a i l j = !(chk (prevOf vs j) l)
  | [], j, _ => rfl
  | o :: r, j, h => by
    obtain ⟨h1, h2, h3⟩ := prev_succ h
    unfold r02_RightTermsL1F chk
    rw [r02_RightTermsL1F_eq a i vs hv hl r (j + 1) h2, h1, hv, r02_keysLF vs hl o r j h, ← word_eq]
    generalize (match prevOf vs j with | none => true | some q => strLess q o) = b1
    cases topo_WordF o <;> cases b1 <;> cases chk (some o) r <;> rfl
theorem r02_RightTermsLF_eq (a : List XTerm) (ha : a.length < 4611686018427387904) (hf : ∀ t ∈ a, t.Fine) : ∀ (l : List XTerm) (i : Nat), a.drop i = l → r02_RightTermsLF a l i = !(chk (prevOf (a.map XTerm.key) i) (l.map XTerm.key) && l.all fun t => !(topo_right_1F t.key t.values))
  | [], i, _ => rfl
  | o :: r, i, h => by
    have hd : (a.map XTerm.key).drop i = o.key :: r.map XTerm.key := by rw [← List.map_drop, h]; rfl
    obtain ⟨h1, h2, h3⟩ := prev_succ hd
    have hi : i < a.length := by rw [List.length_map] at h3; exact h3
    have hh := h
    rw [List.drop_eq_getElem_cons hi] at hh
    obtain ⟨ho, h2'⟩ := List.cons.inj hh
    have hv : (a.getD i default).values = o.values := by
      rw [List.getD_eq_getElem?_getD, List.getElem?_eq_getElem hi, Option.getD_some, ho]
    have hol : o.values.length < 4611686018427387904 := by
      have := (hf _ (List.getElem_mem hi)).2.1
      rw [ho] at this
      exact this
    unfold r02_RightTermsLF
    rw [List.map_cons]
    unfold chk
    rw [r02_RightTermsLF_eq a ha hf r (i + 1) h2', h1, ← word_eq, List.all_cons, r02_RightTermsL1F_eq a i o.values hv hol o.values 0 rfl]
    have e : (cond (decide ((i : Int) > (0 : Int))) (strLess (o.key) ((a.getD ((IntKind.i64.wrap ((i : Int) - (1 : Int))).toNat) default).key) || decide ((o.key) = ((a.getD ((IntKind.i64.wrap ((i : Int) - (1 : Int))).toNat) default).key))) false) = !(match prevOf (a.map XTerm.key) i with | none => true | some q => strLess q o.key) := by
      rw [← r02_keysLF (a.map XTerm.key) (by rw [List.length_map]; exact ha) o.key _ i hd]
      rcases Nat.eq_zero_or_pos i with h0 | h0
      · subst h0; rfl
      · rw [List.length_map] at h3
        rw [wrap_prev h0 (by omega), getD_map XTerm.key a (i - 1) (by omega)]
    have e2 : topo_right_1F o.key o.values = (decide (((o.values).length : Int) < (1 : Int)) || decide (((o.values).length : Int) > (8 : Int)) || !(chk (prevOf o.values 0) o.values)) := by
      unfold topo_right_1F topo_risingF
      rw [risingLF_eq o.values hol o.values 0 rfl, cond_or, cond_or, cond_ft, Bool.not_not]
      have : (((o.values).length : Int) == 0) = decide (((o.values).length : Int) < 1) := by
        rw [Bool.eq_iff_iff, beq_iff_eq, decide_eq_true_eq]; omega
      rw [this]
    rw [e, e2]
    generalize (match prevOf (a.map XTerm.key) i with | none => true | some q => strLess q o.key) = b1
    cases topo_WordF o.key <;> cases b1 <;> cases decide (((o.values).length : Int) < (1 : Int)) <;> cases decide (((o.values).length : Int) > (8 : Int)) <;> cases chk (prevOf o.values 0) o.values <;> cases chk (some o.key) (r.map XTerm.key) <;> cases (r.all fun t => !(topo_right_1F t.key t.values)) <;> rfl
theorem r02_RightTerms_iff (l : List XTerm) (hl : l.length ≤ 4294967296) (hf : ∀ t ∈ l, t.Fine) : r02_RightTermsF l = true ↔ RightT l := by
  unfold r02_RightTermsF RightT RTm
  rw [r02_RightTermsLF_eq l (by omega) hf l 0 rfl, cond_not, Bool.not_not, Bool.and_eq_true, Bool.and_eq_true, chk_iff, List.all_eq_true, decide_eq_true_eq]
  constructor
  · rintro ⟨⟨⟨h1, h2, _⟩, h3⟩, h4⟩
    exact ⟨fun x hx => ⟨h1 _ (List.mem_map.2 ⟨x, hx, rfl⟩), (right_1_iff x.key _ (hf x hx).2.1).1 (by simpa using h3 x hx)⟩, h2, by omega⟩
  · rintro ⟨h1, h2, h3⟩
    refine ⟨⟨⟨fun s hs => ?_, h2, fun q hq => by cases hq⟩, fun x hx => ?_⟩, by omega⟩
    · obtain ⟨x, hx, rfl⟩ := List.mem_map.1 hs
      exact (h1 x hx).1
    · rw [(right_1_iff x.key _ (hf x hx).2.1).2 (h1 x hx).2]; rfl
theorem right_eq (l : List XTerm) (hl : l.length ≤ 4294967296) (hf : ∀ t ∈ l, t.Fine) : topo_rightF l = r02_RightTermsF l := by rw [Bool.eq_iff_iff, right_iff l hl hf, r02_RightTerms_iff l hl hf]
theorem rightLabels_eq (l : List XLabel) (hl : l.length ≤ 4294967296) : topo_rightLabelsF l = r02_RightLabelsF l := by rw [Bool.eq_iff_iff, rightLabels_iff l hl, r02_RightLabels_iff l hl]
/-! ### How great texts are -/
def GT (t : XTerm) : Prop := t.key.size ≤ 24 ∧ t.values.length ≤ 8 ∧ ∀ q ∈ t.values, q.size ≤ 24
def GL (x : XLabel) : Prop := x.key.size ≤ 24 ∧ x.value.size ≤ 24
theorem RightT.gt {l : List XTerm} (h : RightT l) : ∀ q ∈ l, GT q := fun q hq => ⟨(h.1 q hq).1.2.2, (h.1 q hq).2.2.1, fun v hv => ((h.1 q hq).2.2.2.1 v hv).2.2⟩
theorem RightL.gl {l : List XLabel} (h : RightL l) : ∀ q ∈ l, GL q := fun q hq => ⟨(h.1 q hq).1.2.2, (h.1 q hq).2.2.2⟩
theorem joinB_size (sep : ByteArray) (h1 : sep.size = 1) (K : Nat) : ∀ l : List ByteArray, (∀ q ∈ l, q.size ≤ K) → (joinB l sep).size ≤ l.length * (K + 1) := by
  have hl : ∀ l : List ByteArray, (joinB l sep).size = (Lib.join (l.map (·.data.toList)) sep.data.toList).length := fun l => by
    show (Lib.join (l.map (·.data.toList)) sep.data.toList).toArray.size = _
    simp
  have hs : sep.data.toList.length = 1 := by rw [size_list]; exact h1
  have ht : ∀ r : List ByteArray, (∀ q ∈ r, q.size ≤ K) → (Lib.joinTail sep.data.toList (r.map (·.data.toList))).length ≤ r.length * (K + 1) := by
    intro r
    induction r with
    | nil => intro _; exact Nat.zero_le _
    | cons o r ih =>
      intro h
      have h2 := ih fun q hq => h q (List.mem_cons_of_mem _ hq)
      have h3 := h o List.mem_cons_self
      unfold Lib.joinTail at h2 ⊢
      simp only [List.map_cons, List.flatten_cons, List.length_append, size_list, List.length_cons]
      rw [Nat.add_mul]
      omega
  intro l h
  rw [hl]
  cases l with
  | nil => exact Nat.zero_le _
  | cons o r =>
    rw [List.map_cons, Lib.join_cons, List.length_append, size_list]
    have h2 := ht r fun q hq => h q (List.mem_cons_of_mem _ hq)
    have h3 := h o List.mem_cons_self
    rw [List.length_cons, Nat.add_mul]
    omega
end Go.Proofs.YtbjlmmeabonbpaaDoor
