/- Attach: plain laws: what the program does is what the document says. -/
import Derived.Test.YtbcnehpndoghcaaDPL4
import Derived.Test.YtbcnehpndoghcaaDLawA
set_option linter.unusedVariables false
set_option linter.unusedSimpArgs false
set_option maxRecDepth 100000
namespace Go.Proofs.Ytbcnehpndoghcaa
open Go Go.Eng
/-- The first of each key, by the keys that were seen. -/
def uniqS : List XObj → List (XKey × Bool) → List XObj
  | [], _ => []
  | o :: r, m => cond (!((mget (k := .key) (v := .bool) m (object_KeyF o)).getD default)) (o :: uniqS r (mset (k := .key) (v := .bool) m (object_KeyF o) true)) (uniqS r (mset (k := .key) (v := .bool) m (object_KeyF o) true))
theorem r12_GetLF_append (k : Int) (n : ByteArray) : ∀ (v l : List XObj), r12_GetLF k n (v ++ l) = cond (r12_GetLF k n v).1 (r12_GetLF k n v) (r12_GetLF k n l)
  | [], l => rfl
  | o :: v, l => by
    simp only [List.cons_append, r12_GetLF]
    cases hc : (cond ((o.kind) == k) (decide ((o.name) = n)) false) with
    | true => rfl
    | false => exact r12_GetLF_append k n v l
theorem uniq_step : ∀ (l : List XObj) (m : List (XKey × Bool)) (v : List XObj), (∀ k n, (mget (k := .key) (v := .bool) m ⟨k, n⟩).getD default = (r12_GetLF k n v).1) → r12_UniqLF l v = v ++ uniqS l m
  | [], m, v, _ => (List.append_nil v).symm
  | o :: r, m, v, h => by
    unfold uniqS r12_UniqLF
    rw [r12_Get_eq]
    have h0 := h o.kind o.name
    show cond (!(r12_GetLF o.kind o.name v).1) _ _ = v ++ cond (!((mget (k := .key) (v := .bool) m ⟨o.kind, o.name⟩).getD default)) _ _
    rw [h0]
    cases hc : (r12_GetLF o.kind o.name v).1 with
    | true =>
      refine uniq_step r _ v fun k n => ?_
      show (mget (k := .key) (v := .bool) (mset (k := .key) (v := .bool) m ⟨o.kind, o.name⟩ true) ⟨k, n⟩).getD default = _
      rw [mget_mset_key]
      by_cases h2 : (k == o.kind && decide (n = o.name)) = true
      · rw [if_pos h2]
        simp only [Bool.and_eq_true, beq_iff_eq, decide_eq_true_eq] at h2
        obtain ⟨rfl, rfl⟩ := h2
        rw [hc]; rfl
      · rw [if_neg h2, h k n]
    | false =>
      rw [Bool.not_false, cond_true, cond_true, uniq_step r (mset (k := .key) (v := .bool) m (object_KeyF o) true) (v ++ [o]) fun k n => ?_, List.append_assoc]
      · rfl
      show (mget (k := .key) (v := .bool) (mset (k := .key) (v := .bool) m ⟨o.kind, o.name⟩ true) ⟨k, n⟩).getD default = _
      rw [mget_mset_key, r12_GetLF_append]
      by_cases h2 : (k == o.kind && decide (n = o.name)) = true
      · rw [if_pos h2]
        simp only [Bool.and_eq_true, beq_iff_eq, decide_eq_true_eq] at h2
        obtain ⟨rfl, rfl⟩ := h2
        rw [hc]
        simp [r12_GetLF]
      · rw [if_neg h2, h k n]
        cases hv : (r12_GetLF k n v).1 with
        | true => simp [hv]
        | false =>
          have : (cond (o.kind == k) (decide (o.name = n)) false) = false := by
            cases h3 : (o.kind == k) with
            | false => rfl
            | true =>
              have e3 : o.kind = k := by simpa using h3
              simp only [cond_true, decide_eq_false_iff_not]
              intro e
              exact h2 (by simp [e3, e])
          simp [r12_GetLF, this]
theorem uniq_eq (l : List XObj) : r12_UniqF l = uniqS l [] := by
  unfold r12_UniqF
  rw [uniq_step l [] [] fun k n => rfl]
  rfl
theorem uniq_get (k : Int) (n : ByteArray) : ∀ l v : List XObj, r12_GetLF k n (r12_UniqLF l v) = r12_GetLF k n (v ++ l)
  | [], v => by unfold r12_UniqLF; rw [List.append_nil]
  | o :: r, v => by
    unfold r12_UniqLF
    cases h : (r12_GetF v o.kind o.name).2 with
    | false =>
      rw [Bool.not_false, cond_true, uniq_get k n r, List.append_assoc]
      rfl
    | true =>
      rw [Bool.not_true, cond_false, uniq_get k n r, r12_GetLF_append, r12_GetLF_append]
      rw [show r12_GetLF k n (o :: r) = cond (cond (o.kind == k) (decide (o.name = n)) false) (true, o) (r12_GetLF k n r) from rfl]
      by_cases hk : cond (o.kind == k) (decide (o.name = n)) false = true
      · have h1 : o.kind = k ∧ o.name = n := by
          cases h3 : o.kind == k <;> rw [h3] at hk
          · cases hk
          · exact ⟨by simpa using h3, by simpa using hk⟩
        have h2 : (r12_GetLF k n v).1 = true := by
          rw [r12_Get_eq, h1.1, h1.2] at h
          exact h
        rw [h2]; rfl
      · rw [eq_false_of_ne_true hk, cond_false]
theorem get_uniq (l : List XObj) (k : Int) (n : ByteArray) : r12_GetF (r12_UniqF l) k n = r12_GetF l k n := by
  rw [r12_Get_eq, r12_Get_eq]
  unfold r12_UniqF
  rw [uniq_get k n l [], List.nil_append]
theorem get_same (l : List XObj) (k : Int) (n : ByteArray) : attach_getF l k n = r12_GetF (r12_UniqF l) k n := by rw [get_uniq, attach_get_eq]
/-- Putting into a list of texts, as the document does it. -/
theorem insL_true (x : ByteArray) : ∀ (l acc : List ByteArray), (∀ o ∈ l, o ≠ x) → r13_insertLF x l true acc = (true, acc ++ l)
  | [], acc, _ => by unfold r13_insertLF; rw [List.append_nil]
  | o :: r, acc, h => by
    unfold r13_insertLF
    rw [Bool.not_true, cond_false, cond_false, decide_eq_false (h o List.mem_cons_self), Bool.not_false, cond_true, insL_true x r _ (fun p hp => h p (List.mem_cons_of_mem _ hp)), List.append_assoc]
    rfl
theorem insL_false (x : ByteArray) : ∀ (l acc : List ByteArray), Rising id l → cond (!((r13_insertLF x l false acc).1)) ((r13_insertLF x l false acc).2 ++ [x]) (r13_insertLF x l false acc).2 = acc ++ insG id x l
  | [], acc, _ => by unfold r13_insertLF insG; rfl
  | o :: r, acc, h => by
    have h' := List.pairwise_cons.1 h
    unfold r13_insertLF insG
    rw [Bool.not_false, cond_true]
    by_cases e : x = o
    · subst e
      rw [decide_eq_true rfl, Bool.or_true, cond_true, Bool.not_true, cond_false, insL_true x r _ (fun p hp => (sl_ne (h'.1 p hp)).symm)]
      show _ = acc ++ cond (strLess x x) _ (cond (decide (x = x)) _ _)
      rw [sl_irrefl, decide_eq_true rfl, cond_false, cond_true]
      simp
    · have e' : ¬ o = x := fun q => e q.symm
      rw [decide_eq_false e, decide_eq_false e', Bool.or_false, Bool.not_false, cond_true, cond_true]
      show _ = acc ++ cond (strLess o x) _ (cond (decide (o = x)) _ _)
      rw [decide_eq_false e']
      cases hx : strLess x o with
      | true =>
        rw [cond_true, sl_asymm hx, insL_true x r _ (fun p hp => (sl_ne (sl_trans hx (h'.1 p hp))).symm)]
        simp
      | false =>
        have ho : strLess o x = true := by
          cases ho : strLess o x with
          | true => rfl
          | false => exact absurd (sl_total hx ho) e
        rw [cond_false, ho, cond_true, insL_false x r _ h'.2, List.append_assoc]
        rfl
theorem insert_eq (x : ByteArray) (l : List ByteArray) (h : Rising id l) : r13_insertF l x = insG id x l := by
  have := insL_false x l [] h
  rw [List.nil_append] at this
  exact this
theorem insG_len {α : Type} (key : α → ByteArray) (x : α) : ∀ l : List α, (insG key x l).length ≤ l.length + 1
  | [] => Nat.le_refl _
  | o :: r => by
    have := insG_len key x r
    unfold insG
    cases strLess (key o) (key x) <;> cases decide (key o = key x) <;> simp only [cond_true, cond_false, List.length_cons] <;> omega
theorem wanted_step (a : List XObj) (n : ByteArray) : ∀ (l : List XObj) (m : List (XKey × Bool)) (v : List ByteArray), Rising id v → v.length + l.length ≤ 64 → attach_Wanted_itLF a n l v m = r13_WantedLF a n (uniqS l m) v
  | [], m, v, _, _ => by unfold attach_Wanted_itLF uniqS r13_WantedLF; rfl
  | o :: r, m, v, hv, hn => by
    rw [List.length_cons] at hn
    unfold attach_Wanted_itLF uniqS
    cases (!((mget (k := .key) (v := .bool) m (object_KeyF o)).getD default)) with
    | false => rw [cond_false, cond_false, wanted_step a n r _ v hv (by omega)]
    | true =>
      rw [cond_true, cond_true]
      unfold attach_Wanted_rF r13_WantedLF
      rw [get_same]
      have e : cond (cond (!((o.kind) == (6 : Int))) true (decide ((o.node) = (⟨#[]⟩ : ByteArray)))) true (o.deleting) = cond (cond (!(o.kind == (6 : Int))) true o.deleting) true (decide (o.node = (⟨#[]⟩ : ByteArray))) := by
        cases (!(o.kind == (6 : Int))) <;> cases o.deleting <;> cases decide (o.node = (⟨#[]⟩ : ByteArray)) <;> rfl
      rw [e]
      generalize cond (cond (!(o.kind == (6 : Int))) true o.deleting) true (decide (o.node = (⟨#[]⟩ : ByteArray))) = b1
      generalize cond (cond ((r12_GetF (r12_UniqF a) (3 : Int) (o.claim)).2) ((((r12_GetF (r12_UniqF a) (3 : Int) (o.claim)).1).phase) == (3 : Int)) false) (decide ((((r12_GetF (r12_UniqF a) (3 : Int) (o.claim)).1).volume) = n)) false = b2
      cases b1 with
      | true => exact wanted_step a n r _ v hv (by omega)
      | false =>
        cases b2 with
        | false => exact wanted_step a n r _ v hv (by omega)
        | true =>
          rw [cond_false, cond_false, cond_true, cond_true, insert_eq _ _ hv, putS_eq _ _ hv (by omega)]
          have := insG_len id o.node v
          exact wanted_step a n r _ _ (insG_rising id _ _ hv) (by omega)
theorem wanted_eq (l : List XObj) (n : ByteArray) (h : l.length ≤ 64) : attach_WantedF l n = r13_WantedF l n := by
  unfold attach_WantedF r13_WantedF
  rw [get_same, show attach_firstsF l = l from rfl, wanted_step l n l [] [] List.Pairwise.nil (by simpa using h), ← uniq_eq]
theorem drop_cons {l r : List XObj} {o : XObj} {i : Nat} (h : l.drop i = o :: r) : i < l.length ∧ l.getD i default = o ∧ l.drop (i + 1) = r := by
  have h1 : i < l.length := by
    rcases Nat.lt_or_ge i l.length with q | q
    · exact q
    · rw [List.drop_eq_nil_of_le q] at h; cases h
  rw [List.drop_eq_getElem_cons h1] at h
  obtain ⟨h2, h3⟩ := List.cons.inj h
  exact ⟨h1, by rw [List.getD_eq_getElem?_getD, List.getElem?_eq_getElem h1]; exact h2, h3⟩
theorem attL_true (a : List XObj) (i : Nat) : ∀ (l acc : List XObj), r13_AttachmentsL1F a i l true acc = (true, acc ++ l)
  | [], acc => by unfold r13_AttachmentsL1F; rw [List.append_nil]
  | o :: r, acc => by
    unfold r13_AttachmentsL1F
    rw [Bool.not_true, cond_false, cond_false, attL_true a i r, List.append_assoc]
    rfl
theorem attL_false (a : List XObj) (i : Nat) (x : XObj) (hx : (r12_UniqF a).getD i default = x) : ∀ (l acc : List XObj), (∀ o ∈ l, o.name ≠ x.name) → cond (!((r13_AttachmentsL1F a i l false acc).1)) ((r13_AttachmentsL1F a i l false acc).2 ++ [x]) (r13_AttachmentsL1F a i l false acc).2 = acc ++ insG XObj.name x (l) ∨ ¬ Rising XObj.name l
  | [], acc, _ => .inl (by unfold r13_AttachmentsL1F insG; rfl)
  | o :: r, acc, h => by
    by_cases hr : Rising XObj.name (o :: r)
    · refine .inl ?_
      have h' := List.pairwise_cons.1 hr
      have e : o.name ≠ x.name := h o List.mem_cons_self
      unfold r13_AttachmentsL1F insG
      rw [hx, Bool.not_false, cond_true, decide_eq_false e, cond_false]
      cases hl : strLess x.name o.name with
      | true =>
        rw [cond_true, sl_asymm hl, attL_true a i r]
        simp
      | false =>
        have ho : strLess o.name x.name = true := by
          cases ho : strLess o.name x.name with
          | true => rfl
          | false => exact absurd (sl_total ho hl) e
        rw [cond_false, ho, cond_true]
        rcases attL_false a i x hx r (acc ++ [o]) (fun p hp => h p (List.mem_cons_of_mem _ hp)) with q | q
        · rw [q, List.append_assoc]; rfl
        · exact absurd h'.2 q
    · exact .inr hr
theorem atts_step (a : List XObj) (n : ByteArray) : ∀ (l : List XObj) (m : List (XKey × Bool)) (i : Nat) (v : List XObj), (r12_UniqF a).drop i = uniqS l m → Rising XObj.name v → (∀ p ∈ v, p.kind = 5 ∧ p.volume = n ∧ (mget (k := .key) (v := .bool) m (object_KeyF p)).getD default = true) → v.length + l.length ≤ 64 →
    attach_Attachments_itLF n l v m = r13_AttachmentsLF a n (uniqS l m) i v ∧ ∀ p ∈ attach_Attachments_itLF n l v m, p.kind = 5 ∧ p.volume = n
  | [], m, i, v, _, _, hk, _ => by unfold attach_Attachments_itLF uniqS r13_AttachmentsLF; exact ⟨rfl, fun p hp => ⟨(hk p hp).1, (hk p hp).2.1⟩⟩
  | o :: r, m, i, v, hd, hv, hk, hn => by
    rw [List.length_cons] at hn
    have up : ∀ p : XObj, (mget (k := .key) (v := .bool) m (object_KeyF p)).getD default = true → (mget (k := .key) (v := .bool) (mset (k := .key) (v := .bool) m (object_KeyF o) true) (object_KeyF p)).getD default = true := fun p hp => by
      rw [mget_mset_key]
      split
      · rfl
      · exact hp
    have hk2 : ∀ p ∈ v, p.kind = 5 ∧ p.volume = n ∧ (mget (k := .key) (v := .bool) (mset (k := .key) (v := .bool) m (object_KeyF o) true) (object_KeyF p)).getD default = true := fun p hp => ⟨(hk p hp).1, (hk p hp).2.1, up p (hk p hp).2.2⟩
    unfold attach_Attachments_itLF
    unfold uniqS at hd ⊢
    cases hm : (mget (k := .key) (v := .bool) m (object_KeyF o)).getD default with
    | true =>
      rw [hm] at hd
      exact atts_step a n r _ i v hd hv hk2 (by omega)
    | false =>
      rw [hm, Bool.not_false, cond_true] at hd
      rw [Bool.not_false, cond_true, cond_true]
      obtain ⟨h1, h2, h3⟩ := drop_cons hd
      unfold attach_Attachments_rF r13_AttachmentsLF
      cases hk5 : o.kind == (5 : Int) with
      | false => exact atts_step a n r _ (i + 1) v h3 hv hk2 (by omega)
      | true =>
        rw [Bool.not_true, cond_false, cond_true]
        cases hvn : decide (o.volume = n) with
        | false => exact atts_step a n r _ (i + 1) v h3 hv hk2 (by omega)
        | true =>
          rw [Bool.not_true, cond_false, cond_true]
          have hne : ∀ p ∈ v, p.name ≠ o.name := fun p hp e => by
            have h5 := hk p hp
            have : object_KeyF p = object_KeyF o := by
              unfold object_KeyF
              rw [e, h5.1, show o.kind = 5 by simpa using hk5]
            rw [← this, h5.2.2] at hm
            cases hm
          rcases attL_false a i o h2 v [] hne with q | q
          · rw [List.nil_append] at q
            have e : ∀ (w : List XObj → List XObj) (b : Bool) (x y : List XObj), cond b (w x) (w y) = w (cond b x y) := fun w b x y => by cases b <;> rfl
            rw [e, q, putO_eq o v hv (by omega)]
            have := insG_len XObj.name o v
            refine atts_step a n r _ (i + 1) _ h3 (insG_rising _ _ _ hv) (fun p hp => ?_) (by omega)
            rcases insG_mem _ hp with rfl | hp
            · refine ⟨by simpa using hk5, by simpa using hvn, ?_⟩
              rw [mget_mset_key, if_pos (by simp)]; rfl
            · exact hk2 p hp
          · exact absurd hv q
theorem atts_both (l : List XObj) (n : ByteArray) (h : l.length ≤ 64) : attach_AttachmentsF l n = r13_AttachmentsF l n ∧ ∀ p ∈ attach_AttachmentsF l n, p.kind = 5 ∧ p.volume = n := by
  have := atts_step l n l [] 0 [] (by rw [List.drop_zero, uniq_eq]) List.Pairwise.nil (fun p hp => by simp at hp) (by simpa using h)
  rw [← uniq_eq] at this
  exact this
theorem has_iff (s : ByteArray) (l : List ByteArray) : r13_hasF l s = true ↔ s ∈ l := by
  have h : ∀ l : List ByteArray, r13_hasLF s l = true ↔ s ∈ l := by
    intro l
    induction l with
    | nil => unfold r13_hasLF; simp
    | cons o r ih =>
      unfold r13_hasLF
      by_cases e : o = s
      · rw [decide_eq_true e]; simp [e]
      · rw [decide_eq_false e, cond_false, ih]
        exact ⟨List.mem_cons_of_mem _, fun h => (List.mem_cons.1 h).resolve_left (fun q => e q.symm)⟩
  unfold r13_hasF
  rw [← h l]
  cases r13_hasLF s l <;> rfl
theorem has_eq (s : ByteArray) (l : List ByteArray) : slices_Contains_string_stringF s l = r13_hasF l s := by
  rw [Bool.eq_iff_iff, contains_iff, has_iff]
theorem volL_eq (a : List XObj) (v : Int) (n : ByteArray) (h : a.length ≤ 64) : ∀ l : List XObj, (∀ p ∈ l, p.volume = n) → attach_VolumeLF a v n l = r13_VolumeLF a v n l
  | [], _ => rfl
  | o :: r, hp => by
    unfold attach_VolumeLF r13_VolumeLF
    rw [has_eq, wanted_eq a n h, volL_eq a v n h r (fun p q => hp p (List.mem_cons_of_mem _ q))]
    have e : ∀ k, attach_askF k o = r12_AskF (⟨k, n, o.num, 0, ⟨#[]⟩, o.node, ⟨#[]⟩⟩ : XCall) := fun k => by
      unfold attach_askF r12_AskF
      rw [hp o List.mem_cons_self]
    rw [e, e]
    rfl
theorem there_iff (s : ByteArray) : ∀ (l : List XObj) (i : Nat), ((api_Object_2LF s l i).1 = true ↔ ∃ o ∈ l, o.node = s) ∧ ((api_Object_2LF s l i).1 = true → 0 ≤ (api_Object_2LF s l i).2)
  | [], i => by unfold api_Object_2LF; simp
  | o :: r, i => by
    unfold api_Object_2LF attach_Volume_1F
    by_cases h : o.node = s
    · rw [decide_eq_true h]; exact ⟨⟨fun _ => ⟨o, List.mem_cons_self, h⟩, fun _ => rfl⟩, fun _ => by show (0 : Int) ≤ (i : Int); omega⟩
    · rw [decide_eq_false h, cond_false]
      obtain ⟨h1, h2⟩ := there_iff s r (i + 1)
      refine ⟨h1.trans ⟨fun ⟨p, hp, e⟩ => ⟨p, List.mem_cons_of_mem _ hp, e⟩, fun ⟨p, hp, e⟩ => ?_⟩, h2⟩
      rcases List.mem_cons.1 hp with rfl | hp
      · exact absurd e h
      · exact ⟨p, hp, e⟩
theorem there_any (s : ByteArray) (l : List XObj) : api_ObjectF l s = true ↔ ∃ o ∈ l, o.node = s := by
  unfold api_ObjectF api_Object_2F
  obtain ⟨h1, h2⟩ := there_iff s l 0
  cases h : (api_Object_2LF s l 0).1 with
  | true =>
    rw [h] at h1 h2
    rw [cond_true, decide_eq_true (h2 rfl)]
    exact h1
  | false =>
    rw [h] at h1
    rw [cond_false]
    exact h1
theorem there2_iff (a : List XObj) (n : ByteArray) (i : Nat) (s : ByteArray) (hs : (r13_WantedF a n).getD i default = s) : ∀ (l : List XObj) (b : Bool), r13_VolumeL2F a n i l b = true ↔ b = true ∨ ∃ o ∈ l, o.node = s
  | [], b => by unfold r13_VolumeL2F; simp
  | o :: r, b => by
    unfold r13_VolumeL2F
    rw [there2_iff a n i s hs r, hs]
    cases b with
    | true => simp
    | false => simp
theorem name_same (s : ByteArray) : object_NameF s = r03_NameF s := by
  have h : ∀ n i, object_NameLF s n i = r03_NameLF s n i := by
    intro n
    induction n with
    | zero => intro i; rfl
    | succ n ih =>
      intro i
      unfold object_NameLF r03_NameLF
      rw [ih]
      congr 1
      cases (cond (decide ((byteAt s (i : Int)) ≥ (97 : Int))) (decide ((byteAt s (i : Int)) ≤ (122 : Int))) false) <;> cases (cond (decide ((byteAt s (i : Int)) ≥ (48 : Int))) (decide ((byteAt s (i : Int)) ≤ (57 : Int))) false) <;> cases ((byteAt s (i : Int)) == (45 : Int)) <;> cases ((byteAt s (i : Int)) == (46 : Int)) <;> cases ((byteAt s (i : Int)) == (35 : Int)) <;> cases ((byteAt s (i : Int)) == (47 : Int)) <;> rfl
  unfold object_NameF r03_NameF
  rw [h]
  have e : (!(decide (s = (⟨#[]⟩ : ByteArray)))) = decide ((s.size : Int) ≥ (1 : Int)) := by
    by_cases q : s = ⟨#[]⟩
    · subst q; rfl
    · rw [decide_eq_false q]
      have : s.size ≠ 0 := fun z => q (ByteArray.ext (Array.eq_empty_of_size_eq_zero z))
      rw [decide_eq_true (show (s.size : Int) ≥ 1 by omega)]
      rfl
  rw [e]
theorem newAtt_eq (n s : ByteArray) : newAtt n s = ⟨5, attF n s, 0, 0, false, false, ⟨#[]⟩, 0, 0, 0, false, false, ⟨#[]⟩, s, ⟨#[]⟩, n, ⟨#[]⟩, 0, 0, 0⟩ := rfl
theorem newAtt_r (v : Int) (n s : ByteArray) : r03_DefaultF (⟨5, ⟨#[]⟩, 0, 0, false, false, ⟨#[]⟩, 0, 0, 0, false, false, ⟨#[]⟩, s, ⟨#[]⟩, n, ⟨#[]⟩, 7, IntKind.u64.wrap (v + 1), 0⟩ : XObj) = { newAtt n s with phase := 7, num := IntKind.u64.wrap (v + 1) } := rfl
theorem volL1_eq (a : List XObj) (v : Int) (n : ByteArray) (h : a.length ≤ 64) (hs : cond ((((r12_GetF a (4 : Int) n).1).mode) == (1 : Int)) (decide (((r13_AttachmentsF a n).length : Int) > (0 : Int))) false = false) : ∀ (l : List ByteArray) (i : Nat), (r13_WantedF a n).drop i = l →
    cond (attach_VolumeL1F a v n l).1 default (attach_VolumeL1F a v n l).2 = cond (r13_VolumeL1F a v n l i).1 (r13_VolumeL1F a v n l i).2 default
  | [], i, _ => rfl
  | s :: r, i, hd => by
    have h1 : i < (r13_WantedF a n).length := by
      rcases Nat.lt_or_ge i (r13_WantedF a n).length with q | q
      · exact q
      · rw [List.drop_eq_nil_of_le q] at hd; cases hd
    rw [List.drop_eq_getElem_cons h1] at hd
    obtain ⟨h2, h3⟩ := List.cons.inj hd
    have h4 : (r13_WantedF a n).getD i default = s := by rw [List.getD_eq_getElem?_getD, List.getElem?_eq_getElem h1]; exact h2
    have e : api_ObjectF (attach_AttachmentsF a n) s = r13_VolumeL2F a n i (r13_AttachmentsF a n) false := by
      rw [Bool.eq_iff_iff, there_any, there2_iff a n i s h4, (atts_both a n h).1]
      simp
    unfold attach_VolumeL1F r13_VolumeL1F
    rw [e, hs, cond_false]
    cases r13_VolumeL2F a n i (r13_AttachmentsF a n) false with
    | true => exact volL1_eq a v n h hs r (i + 1) h3
    | false =>
      rw [cond_false, cond_false, newAtt_r, name_same]
      rw [show (object_DefaultF (⟨(5 : Int), (⟨#[]⟩ : ByteArray), (0 : Int), (0 : Int), false, false, (⟨#[]⟩ : ByteArray), (0 : Int), (0 : Int), (0 : Int), false, false, (⟨#[]⟩ : ByteArray), s, (⟨#[]⟩ : ByteArray), n, (⟨#[]⟩ : ByteArray), (0 : Int), (0 : Int), (0 : Int)⟩ : XObj)) = newAtt n s from rfl]
      show cond (cond (!(r03_NameF (newAtt n s).name)) _ _ : Bool × XAct).1 _ _ = cond (cond (!(r03_NameF (newAtt n s).name)) _ _ : Bool × XAct).1 _ _
      cases r03_NameF (newAtt n s).name <;> rfl
theorem volL1_single (a : List XObj) (v : Int) (n : ByteArray) (hs : cond ((((r12_GetF a (4 : Int) n).1).mode) == (1 : Int)) (decide (((r13_AttachmentsF a n).length : Int) > (0 : Int))) false = true) : ∀ (l : List ByteArray) (i : Nat), cond (r13_VolumeL1F a v n l i).1 (r13_VolumeL1F a v n l i).2 default = default
  | [], i => rfl
  | s :: r, i => by
    unfold r13_VolumeL1F
    rw [hs, cond_true, cond_true]
    cases r13_VolumeL2F a n i (r13_AttachmentsF a n) false with
    | true => exact volL1_single a v n hs r (i + 1)
    | false => rfl
theorem volume_eq (a : List XObj) (v : Int) (n : ByteArray) (h : a.length ≤ 64) : attach_VolumeF a v n = r13_VolumeF a v n := by
  have hb := atts_both a n h
  unfold attach_VolumeF r13_VolumeF
  rw [attach_get_eq, volL_eq a v n h _ (fun p hp => (hb.2 p hp).2), hb.1, wanted_eq a n h]
  cases (!((r12_GetF a (4 : Int) n).2)) with
  | true => rfl
  | false =>
    rw [cond_false, cond_false]
    cases (r13_VolumeLF a v n (r13_AttachmentsF a n)).1 with
    | true => rfl
    | false =>
      rw [cond_false, cond_false]
      cases (!((((r12_GetF a (4 : Int) n).1).phase) == (3 : Int))) with
      | true => rfl
      | false =>
        rw [cond_false, cond_false]
        cases hs : cond ((((r12_GetF a (4 : Int) n).1).mode) == (1 : Int)) (decide (((r13_AttachmentsF a n).length : Int) > (0 : Int))) false with
        | true => exact (volL1_single a v n hs _ 0).symm
        | false => exact volL1_eq a v n h hs _ 0 (List.drop_zero)
theorem attachActs (l : List XObj) (v : Int) (n : ByteArray) : w13_AttachActsF l v n = true := by
  unfold w13_AttachActsF
  rw [live_true, volume_eq _ _ _ (Nat.le_trans (w13_few_len l) (by decide))]
  simp
end Go.Proofs.Ytbcnehpndoghcaa
