/- Topo: plain laws: a text that is cut, and put together. -/
import Derived.Test.YtbjlmmeabonbpaaDoorDH4
set_option linter.unusedVariables false
set_option linter.unusedSimpArgs false
set_option maxRecDepth 100000
namespace Go.Proofs.YtbjlmmeabonbpaaDoor
open Go Go.Eng
theorem ext_list {a b : ByteArray} (h : a.data.toList = b.data.toList) : a = b := by
  have : a.data = b.data := Array.toList_inj.1 h
  cases a; cases b; cases this; rfl
theorem app_list (a b : ByteArray) : (a ++ b).data.toList = a.data.toList ++ b.data.toList := by
  simp [ByteArray.data_append]
theorem ext_data (s : ByteArray) (i j : Nat) : (s.extract i j).data.toList = (s.data.toList.drop i).take (j - i) := by
  rw [ByteArray.data_extract, Array.toList_extract, List.extract_eq_take_drop]
/-- Where the first of a letter stands. -/
theorem indexByte_split (c : UInt8) : ∀ (x y : List UInt8), c ∉ x → Lib.indexByte (x ++ c :: y) c = x.length
  | [], y, _ => by simp [Lib.indexByte]
  | b :: x, y, h => by
    have hb : ¬ (b == c) = true := fun e => h (by rw [beq_iff_eq] at e; rw [e]; exact List.mem_cons_self)
    have ih := indexByte_split c x y (fun hx => h (List.mem_cons_of_mem _ hx))
    show (if (b == c) = true then (0 : Int) else if (Lib.indexByte (x ++ c :: y) c == -1) = true then -1 else Lib.indexByte (x ++ c :: y) c + 1) = _
    rw [if_neg hb, ih, if_neg (by simp)]
    simp
theorem indexByte_none (c : UInt8) : ∀ x : List UInt8, c ∉ x → Lib.indexByte x c = -1
  | [], _ => rfl
  | b :: x, h => by
    have hb : ¬ (b == c) = true := fun e => h (by rw [beq_iff_eq] at e; rw [e]; exact List.mem_cons_self)
    have ih := indexByte_none c x (fun hx => h (List.mem_cons_of_mem _ hx))
    show (if (b == c) = true then (0 : Int) else if (Lib.indexByte x c == -1) = true then -1 else Lib.indexByte x c + 1) = _
    rw [if_neg hb, ih]
    rfl
theorem idx1_list (s : ByteArray) (c : UInt8) : idx1 s (⟨#[c]⟩ : ByteArray) = Lib.indexByte s.data.toList c := by
  show Lib.index s.data.toList [c] = _
  rw [Lib.index_one]
/-- A text with a letter is cut there. -/
theorem cut_at (x y : ByteArray) (c : UInt8) (hx : c ∉ x.data.toList) (hs : (x ++ (⟨#[c]⟩ : ByteArray) ++ y).size < 4611686018427387904) : strings_CutF (x ++ (⟨#[c]⟩ : ByteArray) ++ y) (⟨#[c]⟩ : ByteArray) = (x, y, true) := by
  have hl : (x ++ (⟨#[c]⟩ : ByteArray) ++ y).data.toList = x.data.toList ++ c :: y.data.toList := by
    rw [app_list, app_list]
    simp
  have hi := idx1_list (x ++ (⟨#[c]⟩ : ByteArray) ++ y) c
  rw [hl, indexByte_split c _ _ hx, size_list] at hi
  rcases cut_all _ (⟨#[c]⟩ : ByteArray) rfl hs with ⟨_, h⟩ | ⟨i, _, h, hc⟩
  · rw [hi] at h; omega
  · rw [hi] at h
    have e : i = x.size := by omega
    subst e
    rw [hc]
    have h1 : (x ++ (⟨#[c]⟩ : ByteArray) ++ y).extract 0 x.size = x := by
      apply ext_list
      rw [ext_data, hl, List.drop_zero, Nat.sub_zero, ← size_list x, List.take_left']
      rfl
    have h2 : (x ++ (⟨#[c]⟩ : ByteArray) ++ y).extract (x.size + 1) (x ++ (⟨#[c]⟩ : ByteArray) ++ y).size = y := by
      apply ext_list
      rw [ext_data, ← size_list (x ++ (⟨#[c]⟩ : ByteArray) ++ y), hl, ← size_list x]
      have e3 : x.data.toList ++ c :: y.data.toList = (x.data.toList ++ [c]) ++ y.data.toList := by simp
      rw [e3, List.drop_left' (by rw [List.length_append]; rfl), List.take_of_length_le (by rw [List.length_append, List.length_append]; show _ ≤ _; simp only [List.length_cons, List.length_nil]; omega)]
    rw [h1, h2]
theorem cut_none (x : ByteArray) (c : UInt8) (hx : c ∉ x.data.toList) (hs : x.size < 4611686018427387904) : strings_CutF x (⟨#[c]⟩ : ByteArray) = (x, ⟨#[]⟩, false) := by
  have hi := idx1_list x c
  rw [indexByte_none c _ hx] at hi
  rcases cut_all x (⟨#[c]⟩ : ByteArray) rfl hs with ⟨h, _⟩ | ⟨i, _, h, _⟩
  · exact h
  · rw [hi] at h; omega
/-- What is cut, put together. -/
theorem cut_back (s : ByteArray) (c : UInt8) (hs : s.size < 4611686018427387904) (h : (strings_CutF s (⟨#[c]⟩ : ByteArray)).2.2 = true) : (strings_CutF s (⟨#[c]⟩ : ByteArray)).1 ++ (⟨#[c]⟩ : ByteArray) ++ (strings_CutF s (⟨#[c]⟩ : ByteArray)).2.1 = s ∧ c ∉ (strings_CutF s (⟨#[c]⟩ : ByteArray)).1.data.toList := by
  have key : ∀ l : List UInt8, ∀ i : Nat, Lib.indexByte l c = i → l = l.take i ++ c :: l.drop (i + 1) ∧ c ∉ l.take i := by
    intro l
    induction l with
    | nil => intro i h; simp [Lib.indexByte] at h
    | cons b l ih =>
      intro i h
      have h' : (if (b == c) = true then (0 : Int) else if (Lib.indexByte l c == -1) = true then -1 else Lib.indexByte l c + 1) = i := h
      by_cases hb : (b == c) = true
      · rw [if_pos hb] at h'
        have : i = 0 := by omega
        subst this
        rw [beq_iff_eq] at hb
        subst hb
        simp
      · rw [if_neg hb] at h'
        split at h'
        · omega
        · have hge := Lib.indexByte_ge l c
          rename_i hne
          have hne' : Lib.indexByte l c ≠ -1 := by simpa using hne
          obtain ⟨k, hk⟩ : ∃ k : Nat, Lib.indexByte l c = k := ⟨(Lib.indexByte l c).toNat, by omega⟩
          obtain ⟨h1, h2⟩ := ih k hk
          have : i = k + 1 := by omega
          subst this
          refine ⟨by simp only [List.take_succ_cons, List.drop_succ_cons, List.cons_append]; rw [← h1], ?_⟩
          rw [List.take_succ_cons]
          intro hm
          rcases List.mem_cons.1 hm with rfl | hm
          · exact hb (beq_self_eq_true _)
          · exact h2 hm
  rcases cut_all s (⟨#[c]⟩ : ByteArray) rfl hs with ⟨hc, _⟩ | ⟨i, hi, h0, hc⟩
  · rw [hc] at h; cases h
  · rw [hc]
    rw [idx1_list] at h0
    obtain ⟨h1, h2⟩ := key _ i h0
    have e1 : (s.extract 0 i).data.toList = s.data.toList.take i := by rw [ext_data, List.drop_zero, Nat.sub_zero]
    have e2 : (s.extract (i + 1) s.size).data.toList = s.data.toList.drop (i + 1) := by
      rw [ext_data, List.take_of_length_le (by rw [List.length_drop, size_list]; omega)]
    refine ⟨?_, by rw [e1]; exact h2⟩
    apply ext_list
    rw [app_list, app_list, e1, e2]
    conv => rhs; rw [h1]
    simp
theorem cut_miss (s : ByteArray) (c : UInt8) (hs : s.size < 4611686018427387904) (h : (strings_CutF s (⟨#[c]⟩ : ByteArray)).2.2 = false) : strings_CutF s (⟨#[c]⟩ : ByteArray) = (s, ⟨#[]⟩, false) := by
  rcases cut_all s (⟨#[c]⟩ : ByteArray) rfl hs with ⟨hc, _⟩ | ⟨i, _, _, hc⟩
  · exact hc
  · rw [hc] at h; cases h
/-- Cutting at all of a letter, one by one. -/
theorem split_cut (s : ByteArray) (c : UInt8) (hs : s.size < 4611686018427387904) : split1 s (⟨#[c]⟩ : ByteArray) = cond (strings_CutF s (⟨#[c]⟩ : ByteArray)).2.2 ((strings_CutF s (⟨#[c]⟩ : ByteArray)).1 :: split1 (strings_CutF s (⟨#[c]⟩ : ByteArray)).2.1 (⟨#[c]⟩ : ByteArray)) [s] := by
  rcases cut_all s (⟨#[c]⟩ : ByteArray) rfl hs with ⟨hc, h⟩ | ⟨i, hi, h, hc⟩
  · rw [hc, cond_false]
    unfold split1
    rw [Lib.countB_miss _ _ h]
    rfl
  · rw [hc, cond_true]
    unfold split1
    rw [Lib.countB_hit s (⟨#[c]⟩ : ByteArray) i (Nat.le_refl 1) h, Nat.add_comm, Lib.splitB_hit _ _ _ _ _ h]
    rfl
theorem split_one (x : ByteArray) (c : UInt8) (hx : c ∉ x.data.toList) (hs : x.size < 4611686018427387904) : split1 x (⟨#[c]⟩ : ByteArray) = [x] := by
  rw [split_cut x c hs, cut_none x c hx hs]
  rfl
theorem split_len1 (x : ByteArray) (c : UInt8) (hs : x.size < 4611686018427387904) (h : (split1 x (⟨#[c]⟩ : ByteArray)).length = 1) : split1 x (⟨#[c]⟩ : ByteArray) = [x] ∧ c ∉ x.data.toList := by
  rw [split_cut x c hs] at h ⊢
  cases hb : (strings_CutF x (⟨#[c]⟩ : ByteArray)).2.2 with
  | false =>
    refine ⟨rfl, fun hm => ?_⟩
    obtain ⟨a, b, e⟩ := List.append_of_mem hm
    have hm2 := cut_miss x c hs hb
    have hneg : idx1 x (⟨#[c]⟩ : ByteArray) = -1 := by
      rcases cut_all x (⟨#[c]⟩ : ByteArray) rfl hs with ⟨_, h⟩ | ⟨i, _, _, hc⟩
      · exact h
      · rw [hc] at hb; cases hb
    rw [idx1_list] at hneg
    have : ∀ l : List UInt8, c ∈ l → Lib.indexByte l c ≠ -1 := by
      intro l
      induction l with
      | nil => intro h; cases h
      | cons b l ih =>
        intro hm h
        have h' : (if (b == c) = true then (0 : Int) else if (Lib.indexByte l c == -1) = true then -1 else Lib.indexByte l c + 1) = -1 := h
        by_cases hb : (b == c) = true
        · rw [if_pos hb] at h'; omega
        · rw [if_neg hb] at h'
          have hl : c ∈ l := by
            rcases List.mem_cons.1 hm with rfl | hm
            · exact absurd (beq_self_eq_true _) hb
            · exact hm
          have h2 := ih hl
          rw [if_neg (by simpa using h2)] at h'
          have := Lib.indexByte_ge l c
          omega
    exact this _ hm hneg
  | true =>
    rw [hb, cond_true, List.length_cons] at h
    have hne : split1 (strings_CutF x (⟨#[c]⟩ : ByteArray)).2.1 (⟨#[c]⟩ : ByteArray) ≠ [] := by
      have hsz := (cut_size x (⟨#[c]⟩ : ByteArray) rfl hs).2.1
      rw [split_cut _ c (by omega)]
      cases (strings_CutF (strings_CutF x (⟨#[c]⟩ : ByteArray)).2.1 (⟨#[c]⟩ : ByteArray)).2.2 <;> simp
    have : (split1 (strings_CutF x (⟨#[c]⟩ : ByteArray)).2.1 (⟨#[c]⟩ : ByteArray)).length = 0 := by omega
    exact absurd (List.eq_nil_of_length_eq_zero this) hne
/-! ### Texts that are put together -/
theorem joinB_nil (sep : ByteArray) : joinB [] sep = ⟨#[]⟩ := rfl
theorem joinB_one (x sep : ByteArray) : joinB [x] sep = x := by
  apply ext_list
  show (Lib.join [x.data.toList] sep.data.toList) = _
  rw [Lib.join_one]
theorem joinB_cons (x y : ByteArray) (r : List ByteArray) (sep : ByteArray) : joinB (x :: y :: r) sep = x ++ sep ++ joinB (y :: r) sep := by
  apply ext_list
  rw [app_list, app_list]
  show (Lib.join (x.data.toList :: y.data.toList :: r.map (·.data.toList)) sep.data.toList) = _ ++ _ ++ (Lib.join (y.data.toList :: r.map (·.data.toList)) sep.data.toList)
  rw [Lib.join_cons, Lib.join_cons]
  unfold Lib.joinTail
  simp
/-- What is put together, cut. -/
theorem split_join (c : UInt8) : ∀ (l : List ByteArray), l ≠ [] → (∀ x ∈ l, c ∉ x.data.toList) → (joinB l (⟨#[c]⟩ : ByteArray)).size < 4611686018427387904 → split1 (joinB l (⟨#[c]⟩ : ByteArray)) (⟨#[c]⟩ : ByteArray) = l
  | [], h, _, _ => absurd rfl h
  | [x], _, hx, hs => by
    rw [joinB_one] at hs ⊢
    exact split_one x c (hx x List.mem_cons_self) hs
  | x :: y :: r, _, hx, hs => by
    rw [joinB_cons] at hs ⊢
    have hs2 : (joinB (y :: r) (⟨#[c]⟩ : ByteArray)).size < 4611686018427387904 := by
      rw [ByteArray.size_append] at hs
      omega
    rw [split_cut _ c hs, cut_at x _ c (hx x List.mem_cons_self) hs, cond_true]
    show x :: split1 (joinB (y :: r) (⟨#[c]⟩ : ByteArray)) (⟨#[c]⟩ : ByteArray) = _
    rw [split_join c (y :: r) (by simp) (fun z hz => hx z (List.mem_cons_of_mem _ hz)) hs2]
/-- What is cut, put together. -/
theorem join_split (c : UInt8) : ∀ (n : Nat) (s : ByteArray), s.size = n → n < 4611686018427387904 → joinB (split1 s (⟨#[c]⟩ : ByteArray)) (⟨#[c]⟩ : ByteArray) = s := by
  intro n
  induction n using Nat.strongRecOn with
  | ind n ih =>
    intro s hn hs
    rw [split_cut s c (by omega)]
    cases hb : (strings_CutF s (⟨#[c]⟩ : ByteArray)).2.2 with
    | false => rw [cond_false, joinB_one]
    | true =>
      rw [cond_true]
      have hz := (cut_size s (⟨#[c]⟩ : ByteArray) rfl (by omega)).2.2 hb
      have h1 := ih (strings_CutF s (⟨#[c]⟩ : ByteArray)).2.1.size (by omega) _ rfl (by omega)
      have h2 := (cut_back s c (by omega) hb).1
      cases hsp : split1 (strings_CutF s (⟨#[c]⟩ : ByteArray)).2.1 (⟨#[c]⟩ : ByteArray) with
      | nil =>
        rw [split_cut _ c (by omega)] at hsp
        cases hq : (strings_CutF (strings_CutF s (⟨#[c]⟩ : ByteArray)).2.1 (⟨#[c]⟩ : ByteArray)).2.2 <;> rw [hq] at hsp <;> cases hsp
      | cons y r =>
        rw [joinB_cons, ← hsp, h1]
        exact h2
/-- A word has no other letters. -/
theorem Wd.no {s : ByteArray} (h : Wd s) {c : UInt8} (hc : okw c = false) : c ∉ s.data.toList := fun hm => by
  rw [h.1 c hm] at hc
  cases hc
end Go.Proofs.YtbjlmmeabonbpaaDoor
