/- Attach: plain laws: where each wanted node is attached, nothing is done. -/
import Derived.Test.YtbcnehpndoghcaaDPL5
import Derived.Test.YtbcnehpndoghcaaDLawE
set_option linter.unusedVariables false
set_option linter.unusedSimpArgs false
set_option maxRecDepth 100000
namespace Go.Proofs.Ytbcnehpndoghcaa
open Go Go.Eng
abbrev sC : ByteArray := ⟨#[99]⟩
abbrev sV : ByteArray := ⟨#[118]⟩
abbrev sN : ByteArray := ⟨#[110]⟩
abbrev sX : ByteArray := ⟨#[120]⟩
theorem ext_list {a b : ByteArray} (h : a.data.toList = b.data.toList) : a = b := by
  have : a.data = b.data := Array.toList_inj.1 h
  cases a; cases b; cases this; rfl
theorem app_list (a b : ByteArray) : (a ++ b).data.toList = a.data.toList ++ b.data.toList := by
  simp [ByteArray.data_append]
theorem app_inj {a b c : ByteArray} (h : a ++ b = a ++ c) : b = c := by
  apply ext_list
  have h1 := congrArg (fun x : ByteArray => x.data.toList) h
  simp only [app_list] at h1
  exact List.append_cancel_left h1
/-! ### What is put into a list that is in order stays there, by its key -/
theorem insG_keep {α : Type} (key : α → ByteArray) (x y : α) : ∀ l : List α, y ∈ l → y ∈ insG key x l
  | [], h => by cases h
  | o :: r, h => by
    unfold insG
    cases strLess (key o) (key x) with
    | true =>
      rcases List.mem_cons.1 h with rfl | h
      · exact List.mem_cons_self
      · exact List.mem_cons_of_mem _ (insG_keep key x y r h)
    | false =>
      rw [cond_false]
      cases decide (key o = key x) with
      | true => exact h
      | false => exact List.mem_cons_of_mem _ h
theorem insG_has {α : Type} (key : α → ByteArray) (x : α) : ∀ l : List α, ∃ y ∈ insG key x l, key y = key x
  | [] => ⟨x, List.mem_singleton.2 rfl, rfl⟩
  | o :: r => by
    unfold insG
    cases strLess (key o) (key x) with
    | true =>
      obtain ⟨y, hy, e⟩ := insG_has key x r
      exact ⟨y, List.mem_cons_of_mem _ hy, e⟩
    | false =>
      rw [cond_false]
      by_cases e : key o = key x
      · rw [decide_eq_true e]; exact ⟨o, List.mem_cons_self, e⟩
      · rw [decide_eq_false e]; exact ⟨x, List.mem_cons_self, rfl⟩
theorem key_ext : ∀ {a b : XKey}, a.kind = b.kind → a.name = b.name → a = b
  | ⟨_, _⟩, ⟨_, _⟩, h1, h2 => by cases h1; cases h2; rfl
/-! ### The attachments -/
theorem atts_has (n : ByteArray) : ∀ (l v : List XObj) (m : List (XKey × Bool)), Rising XObj.name v → v.length + l.length ≤ 64 → (∀ o ∈ l, o.kind = 5 → o.volume = n) →
    (∀ y ∈ v, y ∈ attach_Attachments_itLF n l v m) ∧ (∀ o ∈ l, o.kind = 5 → (mget (k := .key) (v := .bool) m (object_KeyF o)).getD default = false → ∃ y ∈ attach_Attachments_itLF n l v m, y.name = o.name)
  | [], v, m, _, _, _ => ⟨fun y hy => by unfold attach_Attachments_itLF; exact hy, fun o ho => by cases ho⟩
  | x :: r, v, m, hv, hn, hk => by
    rw [List.length_cons] at hn
    have hkr : ∀ o ∈ r, o.kind = 5 → o.volume = n := fun o ho => hk o (List.mem_cons_of_mem _ ho)
    have unseen : ∀ o : XObj, (mget (k := .key) (v := .bool) m (object_KeyF o)).getD default = false → object_KeyF o ≠ object_KeyF x → (mget (k := .key) (v := .bool) (mset (k := .key) (v := .bool) m (object_KeyF x) true) (object_KeyF o)).getD default = false := fun o ho hne => by
      rw [mget_mset_key, if_neg]
      · exact ho
      · intro h
        rw [Bool.and_eq_true, beq_iff_eq, decide_eq_true_eq] at h
        exact hne (key_ext h.1 h.2)
    unfold attach_Attachments_itLF
    cases hm : (mget (k := .key) (v := .bool) m (object_KeyF x)).getD default with
    | true =>
      rw [Bool.not_true, cond_false]
      obtain ⟨h1, h2⟩ := atts_has n r v (mset (k := .key) (v := .bool) m (object_KeyF x) true) hv (by omega) hkr
      refine ⟨h1, fun o ho hk5 hu => ?_⟩
      have hne : object_KeyF o ≠ object_KeyF x := fun e => by rw [e, hm] at hu; cases hu
      rcases List.mem_cons.1 ho with rfl | ho
      · exact absurd rfl hne
      · exact h2 o ho hk5 (unseen o hu hne)
    | false =>
      rw [Bool.not_false, cond_true]
      unfold attach_Attachments_rF
      by_cases hx5 : x.kind = 5
      · have hb : (x.kind == (5 : Int)) = true := by simpa using hx5
        rw [hb, decide_eq_true (hk x List.mem_cons_self hx5), cond_true, cond_true, putO_eq x v hv (by omega)]
        have hl := insG_len XObj.name x v
        obtain ⟨h1, h2⟩ := atts_has n r (insG XObj.name x v) (mset (k := .key) (v := .bool) m (object_KeyF x) true) (insG_rising _ _ _ hv) (by omega) hkr
        refine ⟨fun y hy => h1 y (insG_keep _ _ _ _ hy), fun o ho hk5 hu => ?_⟩
        obtain ⟨y, hy, e⟩ := insG_has XObj.name x v
        by_cases hne : object_KeyF o = object_KeyF x
        · exact ⟨y, h1 y hy, by rw [e]; exact (congrArg XKey.name hne).symm⟩
        · rcases List.mem_cons.1 ho with rfl | ho
          · exact absurd rfl hne
          · exact h2 o ho hk5 (unseen o hu hne)
      · have hb : (x.kind == (5 : Int)) = false := by simpa using hx5
        rw [hb, cond_false, cond_false]
        obtain ⟨h1, h2⟩ := atts_has n r v (mset (k := .key) (v := .bool) m (object_KeyF x) true) hv (by omega) hkr
        refine ⟨h1, fun o ho hk5 hu => ?_⟩
        have hne : object_KeyF o ≠ object_KeyF x := fun e => hx5 ((congrArg XKey.kind e).symm.trans hk5)
        rcases List.mem_cons.1 ho with rfl | ho
        · exact absurd rfl hne
        · exact h2 o ho hk5 (unseen o hu hne)
theorem atts_in (l : List XObj) (n : ByteArray) (hl : l.length ≤ 64) (hk : ∀ o ∈ l, o.kind = 5 → o.volume = n) : ∀ o ∈ l, o.kind = 5 → ∃ y ∈ attach_AttachmentsF l n, y.name = o.name := fun o ho h5 =>
  (atts_has n l [] [] List.Pairwise.nil (by simpa using hl) hk).2 o ho h5 rfl
/-! ### The wanted nodes -/
/-- A pod of the claim, at a node. -/
def Pod (o : XObj) : Prop := o.deleting = false ∧ o.node ≠ (⟨#[]⟩ : ByteArray) ∧ o.claim = sC
theorem wanted_has (a : List XObj) (n : ByteArray) (hc : cond (cond ((attach_getF a (3 : Int) sC).2) ((((attach_getF a (3 : Int) sC).1).phase) == (3 : Int)) false) (decide ((((attach_getF a (3 : Int) sC).1).volume) = n)) false = true) : ∀ (l : List XObj) (v : List ByteArray) (m : List (XKey × Bool)), Rising id v → v.length + l.length ≤ 64 → (∀ o ∈ l, o.kind = 6 → Pod o) →
    (∀ s ∈ v, s ∈ attach_Wanted_itLF a n l v m) ∧ (∀ o ∈ l, o.kind = 6 → (mget (k := .key) (v := .bool) m (object_KeyF o)).getD default = false → ∃ x ∈ l, x.kind = 6 ∧ x.name = o.name ∧ x.node ∈ attach_Wanted_itLF a n l v m)
  | [], v, m, _, _, _ => ⟨fun y hy => by unfold attach_Wanted_itLF; exact hy, fun o ho => by cases ho⟩
  | x :: r, v, m, hv, hn, hk => by
    rw [List.length_cons] at hn
    have hkr : ∀ o ∈ r, o.kind = 6 → Pod o := fun o ho => hk o (List.mem_cons_of_mem _ ho)
    have unseen : ∀ o : XObj, (mget (k := .key) (v := .bool) m (object_KeyF o)).getD default = false → object_KeyF o ≠ object_KeyF x → (mget (k := .key) (v := .bool) (mset (k := .key) (v := .bool) m (object_KeyF x) true) (object_KeyF o)).getD default = false := fun o ho hne => by
      rw [mget_mset_key, if_neg]
      · exact ho
      · intro h
        rw [Bool.and_eq_true, beq_iff_eq, decide_eq_true_eq] at h
        exact hne (key_ext h.1 h.2)
    have up : ∀ {o : XObj} {L : List ByteArray}, (∃ y ∈ r, y.kind = 6 ∧ y.name = o.name ∧ y.node ∈ L) → ∃ y ∈ x :: r, y.kind = 6 ∧ y.name = o.name ∧ y.node ∈ L := fun ⟨y, hy, e⟩ => ⟨y, List.mem_cons_of_mem _ hy, e⟩
    unfold attach_Wanted_itLF
    cases hm : (mget (k := .key) (v := .bool) m (object_KeyF x)).getD default with
    | true =>
      rw [Bool.not_true, cond_false]
      obtain ⟨h1, h2⟩ := wanted_has a n hc r v (mset (k := .key) (v := .bool) m (object_KeyF x) true) hv (by omega) hkr
      refine ⟨h1, fun o ho hk6 hu => ?_⟩
      have hne : object_KeyF o ≠ object_KeyF x := fun e => by rw [e, hm] at hu; cases hu
      rcases List.mem_cons.1 ho with rfl | ho
      · exact absurd rfl hne
      · exact up (h2 o ho hk6 (unseen o hu hne))
    | false =>
      rw [Bool.not_false, cond_true]
      unfold attach_Wanted_rF
      by_cases hx6 : x.kind = 6
      · have hb : (x.kind == (6 : Int)) = true := by simpa using hx6
        obtain ⟨p1, p2, p3⟩ := hk x List.mem_cons_self hx6
        rw [hb, p1, decide_eq_false p2, p3, hc, Bool.not_true, cond_false, cond_false, cond_false, cond_true, putS_eq _ v hv (by omega)]
        have hl := insG_len id x.node v
        obtain ⟨h1, h2⟩ := wanted_has a n hc r (insG id x.node v) (mset (k := .key) (v := .bool) m (object_KeyF x) true) (insG_rising _ _ _ hv) (by omega) hkr
        refine ⟨fun y hy => h1 y (insG_keep _ _ _ _ hy), fun o ho hk6 hu => ?_⟩
        obtain ⟨y, hy, e⟩ := insG_has id x.node v
        by_cases hne : object_KeyF o = object_KeyF x
        · have e' : y = x.node := e
          exact ⟨x, List.mem_cons_self, hx6, (congrArg XKey.name hne).symm, h1 _ (e' ▸ hy)⟩
        · rcases List.mem_cons.1 ho with rfl | ho
          · exact absurd rfl hne
          · exact up (h2 o ho hk6 (unseen o hu hne))
      · have hb : (x.kind == (6 : Int)) = false := by simpa using hx6
        rw [hb, Bool.not_false, cond_true]
        have e1 : ∀ b : Bool, cond true true b = true := fun _ => rfl
        rw [e1, cond_true]
        obtain ⟨h1, h2⟩ := wanted_has a n hc r v (mset (k := .key) (v := .bool) m (object_KeyF x) true) hv (by omega) hkr
        refine ⟨h1, fun o ho hk6 hu => ?_⟩
        have hne : object_KeyF o ≠ object_KeyF x := fun e => hx6 ((congrArg XKey.kind e).symm.trans hk6)
        rcases List.mem_cons.1 ho with rfl | ho
        · exact absurd rfl hne
        · exact up (h2 o ho hk6 (unseen o hu hne))
theorem wanted_from (a : List XObj) (n : ByteArray) {P : ByteArray → Prop} : ∀ (l : List XObj) (v : List ByteArray) (m : List (XKey × Bool)), (∀ o ∈ l, o.kind = 6 → P o.node) → (∀ s ∈ v, P s) → ∀ s ∈ attach_Wanted_itLF a n l v m, P s
  | [], v, m, _, hv => by unfold attach_Wanted_itLF; exact hv
  | o :: r, v, m, hl, hv => by
    unfold attach_Wanted_itLF
    have hr : ∀ o ∈ r, o.kind = 6 → P o.node := fun p hp => hl p (List.mem_cons_of_mem _ hp)
    cases (!((mget (k := .key) (v := .bool) m (object_KeyF o)).getD default)) with
    | true =>
      refine wanted_from a n r _ _ hr fun s hs => ?_
      unfold attach_Wanted_rF at hs
      cases h6 : o.kind == (6 : Int) with
      | false => rw [h6] at hs; exact hv s hs
      | true =>
        rw [h6] at hs
        generalize cond (cond (!true) true o.deleting) true (decide (o.node = (⟨#[]⟩ : ByteArray))) = b1 at hs
        generalize cond (cond ((attach_getF a (3 : Int) o.claim).2) ((((attach_getF a (3 : Int) o.claim).1).phase) == (3 : Int)) false) (decide ((((attach_getF a (3 : Int) o.claim).1).volume) = n)) false = b2 at hs
        cases b1
        · cases b2
          · exact hv s hs
          · rcases putS_mem hs with rfl | h
            · exact hl o List.mem_cons_self (by simpa using h6)
            · exact hv s h
        · exact hv s hs
    | false => exact wanted_from a n r _ _ hr hv
/-! ### What is done -/
theorem volLF_rest (a : List XObj) (v : Int) (n : ByteArray) : ∀ l : List XObj, (∀ o ∈ l, o.phase = 8 ∧ o.node ∈ attach_WantedF a n) → attach_VolumeLF a v n l = (false, default)
  | [], _ => rfl
  | o :: r, h => by
    obtain ⟨h1, h2⟩ := h o List.mem_cons_self
    unfold attach_VolumeLF
    rw [h1, (contains_iff _ _).2 h2]
    exact volLF_rest a v n r fun p hp => h p (List.mem_cons_of_mem _ hp)
theorem volLF_not (a : List XObj) (v : Int) (n x : ByteArray) (hx : x ∉ attach_WantedF a n) : ∀ l : List XObj, (∀ o ∈ l, o.phase = 8 ∧ (o.node ∈ attach_WantedF a n ∨ o.node = x)) → (∃ o ∈ l, o.node = x) → ∃ o, o.node = x ∧ attach_VolumeLF a v n l = (true, attach_writeF o 9 v)
  | [], _, h => by obtain ⟨o, ho, _⟩ := h; cases ho
  | o :: r, h, hex => by
    obtain ⟨h1, h2⟩ := h o List.mem_cons_self
    unfold attach_VolumeLF
    rw [h1]
    by_cases hw : o.node ∈ attach_WantedF a n
    · rw [(contains_iff _ _).2 hw]
      refine volLF_not a v n x hx r (fun p hp => h p (List.mem_cons_of_mem _ hp)) ?_
      obtain ⟨p, hp, e⟩ := hex
      rcases List.mem_cons.1 hp with rfl | hp
      · exact absurd (e ▸ hw) hx
      · exact ⟨p, hp, e⟩
    · have hf : slices_Contains_string_stringF o.node (attach_WantedF a n) = false := by
        cases hq : slices_Contains_string_stringF o.node (attach_WantedF a n) with
        | false => rfl
        | true => exact absurd ((contains_iff _ _).1 hq) hw
      rw [hf]
      exact ⟨o, h2.resolve_left hw, rfl⟩
theorem volL1F_rest (a : List XObj) (v : Int) (n : ByteArray) : ∀ l : List ByteArray, (∀ s ∈ l, ∃ o ∈ attach_AttachmentsF a n, o.node = s) → attach_VolumeL1F a v n l = (true, default)
  | [], _ => rfl
  | s :: r, h => by
    unfold attach_VolumeL1F
    rw [(there_any s _).2 (h s List.mem_cons_self), cond_true]
    exact volL1F_rest a v n r fun p hp => h p (List.mem_cons_of_mem _ hp)
/-! ### The list that is asked about -/
def wC : XObj := ⟨3, sC, 0, 0, false, false, ⟨#[102]⟩, 4, 0, 1, false, false, ⟨#[]⟩, ⟨#[]⟩, ⟨#[]⟩, sV, ⟨#[]⟩, 3, 0, 0⟩
def wV : XObj := ⟨4, sV, 0, 0, false, false, ⟨#[102]⟩, 4, 4, 2, false, false, ⟨#[122]⟩, ⟨#[]⟩, ⟨#[99, 35, 49]⟩, ⟨#[]⟩, ⟨#[]⟩, 3, 0, 0⟩
def wP : XObj := ⟨6, ⟨#[112]⟩, 0, 0, false, false, ⟨#[]⟩, 0, 0, 0, false, false, ⟨#[]⟩, sN, sC, ⟨#[]⟩, ⟨#[]⟩, 0, 0, 0⟩
/-- What each object is: a claim, a volume; a pod, an attachment, by their names. -/
def Item (D : ByteArray → Prop) (o : XObj) : Prop := o = wC ∨ o = wV ∨ o = wP ∨ (∃ x, o = podAt (dgt x)) ∨ (∃ d, D d ∧ o = attAt d)
def Dg (d : ByteArray) : Prop := ∃ x, d = dgt x
def Rests (l : List XObj) : Prop := (∃ r, l = wC :: wV :: wP :: r) ∧ (∀ o ∈ l, Item Dg o) ∧ (∀ x, attAt (dgt x) ∈ l ↔ podAt (dgt x) ∈ l)
theorem pod_ne_att (d e : ByteArray) : podAt d ≠ attAt e := fun h => absurd (congrArg XObj.kind h) (by show ¬ (6 : Int) = 5; decide)
theorem rests_more {v : List XObj} (h : Rests v) (x : Int) : Rests (v ++ [podAt (dgt x), attAt (dgt x)]) := by
  obtain ⟨⟨r, hr⟩, h2, h3⟩ := h
  refine ⟨⟨r ++ [podAt (dgt x), attAt (dgt x)], by rw [hr]; rfl⟩, fun o ho => ?_, fun y => ?_⟩
  · rcases List.mem_append.1 ho with ho | ho
    · exact h2 o ho
    · rcases List.mem_cons.1 ho with rfl | ho
      · exact .inr (.inr (.inr (.inl ⟨x, rfl⟩)))
      · rw [List.mem_singleton.1 ho]; exact .inr (.inr (.inr (.inr ⟨_, ⟨x, rfl⟩, rfl⟩)))
  · constructor
    · intro hm
      rcases List.mem_append.1 hm with hm | hm
      · exact List.mem_append_left _ ((h3 y).1 hm)
      · rcases List.mem_cons.1 hm with e | hm
        · exact absurd e.symm (pod_ne_att _ _)
        · have e : dgt y = dgt x := congrArg XObj.node (List.mem_singleton.1 hm)
          rw [e]
          exact List.mem_append_right _ List.mem_cons_self
    · intro hm
      rcases List.mem_append.1 hm with hm | hm
      · exact List.mem_append_left _ ((h3 y).2 hm)
      · rcases List.mem_cons.1 hm with e | hm
        · have e : dgt y = dgt x := congrArg XObj.node e
          rw [e]
          exact List.mem_append_right _ (List.mem_cons_of_mem _ (List.mem_singleton.2 rfl))
        · exact absurd (List.mem_singleton.1 hm) (pod_ne_att _ _)
theorem rests_all (a0 : List Int) : ∀ (n i : Nat) (v : List XObj), i ≤ 8 → 8 < i + n → Rests v → Rests (w13_AttachRestsLF a0 n i v)
  | 0, i, v, h1, h2, _ => by omega
  | n + 1, i, v, h1, h2, hv => by
    rw [rests_step]
    cases hb : cond (decide ((i : Int) < (a0.length : Int))) (decide ((i : Int) < (8 : Int))) false with
    | false => exact hv
    | true =>
      have hq := rests_test hb
      exact rests_all a0 n (i + 1) _ (by omega) (by omega) (rests_more hv _)
theorem dgt_ne1 {x : Int} {d : ByteArray} (h : d.size = 1) : dgt x ≠ d := fun e => by
  have := dgt_size x
  rw [e, h] at this
  cases this
theorem rests_first : Rests [wC, wV, wP] := by
  refine ⟨⟨[], rfl⟩, fun o ho => ?_, fun x => ?_⟩
  · simp only [List.mem_cons, List.not_mem_nil, or_false] at ho
    rcases ho with h | h | h
    · exact .inl h
    · exact .inr (.inl h)
    · exact .inr (.inr (.inl h))
  · have h5 : attAt (dgt x) ∉ [wC, wV, wP] := fun h => by
      simp only [List.mem_cons, List.not_mem_nil, or_false] at h
      rcases h with h | h | h <;> exact absurd (congrArg XObj.kind h) (by first | (show ¬ (5 : Int) = 3; decide) | (show ¬ (5 : Int) = 4; decide) | (show ¬ (5 : Int) = 6; decide))
    have h6 : podAt (dgt x) ∉ [wC, wV, wP] := fun h => by
      simp only [List.mem_cons, List.not_mem_nil, or_false] at h
      rcases h with h | h | h
      · exact absurd (congrArg XObj.kind h) (by show ¬ (6 : Int) = 3; decide)
      · exact absurd (congrArg XObj.kind h) (by show ¬ (6 : Int) = 4; decide)
      · exact dgt_ne1 (d := sN) rfl (congrArg XObj.node h)
    exact ⟨fun h => absurd h h5, fun h => absurd h h6⟩
/-- The list, with the attachments whose nodes are D. -/
structure Whole (D : ByteArray → Prop) (l : List XObj) : Prop where
  first : ∃ r, l = wC :: wV :: wP :: r
  item : ∀ o ∈ l, Item D o
  pods : ∀ x, attAt (dgt x) ∈ l ↔ podAt (dgt x) ∈ l
  home : attAt sN ∈ l
  len : l.length ≤ 64
section
variable {D : ByteArray → Prop} {l : List XObj}
theorem Whole.five (h : Whole D l) {o : XObj} (ho : o ∈ l) (h5 : o.kind = 5) : ∃ d, D d ∧ o = attAt d := by
  rcases h.item o ho with e | e | e | ⟨x, e⟩ | e
  · rw [e] at h5; exact absurd h5 (by show ¬ (3 : Int) = 5; decide)
  · rw [e] at h5; exact absurd h5 (by show ¬ (4 : Int) = 5; decide)
  · rw [e] at h5; exact absurd h5 (by show ¬ (6 : Int) = 5; decide)
  · rw [e] at h5; exact absurd h5 (by show ¬ (6 : Int) = 5; decide)
  · exact e
theorem Whole.six (h : Whole D l) {o : XObj} (ho : o ∈ l) (h6 : o.kind = 6) : o = wP ∨ ∃ x, o = podAt (dgt x) := by
  rcases h.item o ho with e | e | e | e | ⟨d, _, e⟩
  · rw [e] at h6; exact absurd h6 (by show ¬ (3 : Int) = 6; decide)
  · rw [e] at h6; exact absurd h6 (by show ¬ (4 : Int) = 6; decide)
  · exact .inl e
  · exact .inr e
  · rw [e] at h6; exact absurd h6 (by show ¬ (5 : Int) = 6; decide)
theorem Whole.get4 (h : Whole D l) : attach_getF l 4 sV = (wV, true) := by
  obtain ⟨r, hr⟩ := h.first
  rw [attach_get_eq, hr]
  rfl
theorem Whole.get3 (h : Whole D l) : attach_getF l 3 sC = (wC, true) := by
  obtain ⟨r, hr⟩ := h.first
  rw [attach_get_eq, hr]
  rfl
theorem Whole.wanted (h : Whole D l) : attach_WantedF l sV = attach_Wanted_itLF l sV l [] [] := by
  unfold attach_WantedF
  rw [h.get4]
  rfl
theorem pod_size (x : Int) : (podAt (dgt x)).name.size = 3 := by
  show ((⟨#[112]⟩ : ByteArray) ++ dgt x).size = 3
  rw [ByteArray.size_append, dgt_size]
  rfl
theorem Whole.pod_in (h : Whole D l) {o : XObj} (ho : o ∈ l) (h6 : o.kind = 6) : o.node ∈ attach_WantedF l sV := by
  rw [h.wanted]
  have hc : cond (cond ((attach_getF l (3 : Int) sC).2) ((((attach_getF l (3 : Int) sC).1).phase) == (3 : Int)) false) (decide ((((attach_getF l (3 : Int) sC).1).volume) = sV)) false = true := by
    rw [h.get3]
    rfl
  have hp : ∀ o ∈ l, o.kind = 6 → Pod o := fun o ho h6 => by
    rcases h.six ho h6 with e | ⟨x, e⟩
    · rw [e]; exact ⟨rfl, by show sN ≠ _; decide, rfl⟩
    · rw [e]
      refine ⟨rfl, fun e2 => ?_, rfl⟩
      have e3 : dgt x = ⟨#[]⟩ := e2
      have := dgt_size x
      rw [e3] at this
      cases this
  obtain ⟨x, hx, hx6, hn, hin⟩ := (wanted_has l sV hc l [] [] List.Pairwise.nil (by simpa using h.len) hp).2 o ho h6 rfl
  have : x.node = o.node := by
    rcases h.six ho h6 with e | ⟨d, e⟩
    · rcases h.six hx hx6 with e2 | ⟨d2, e2⟩
      · rw [e, e2]
      · rw [e, e2] at hn
        have := pod_size d2
        rw [hn] at this
        cases this
    · rcases h.six hx hx6 with e2 | ⟨d2, e2⟩
      · rw [e, e2] at hn
        have := pod_size d
        rw [← hn] at this
        cases this
      · rw [e, e2] at hn ⊢
        exact app_inj hn
  rw [← this]
  exact hin
theorem Whole.wanted_is (h : Whole D l) {s : ByteArray} (hs : s ∈ attach_WantedF l sV) : s = sN ∨ ∃ x, s = dgt x ∧ podAt (dgt x) ∈ l := by
  rw [h.wanted] at hs
  refine wanted_from l sV (P := fun s => s = sN ∨ ∃ x, s = dgt x ∧ podAt (dgt x) ∈ l) l [] [] (fun o ho h6 => ?_) (fun s hs => by cases hs) s hs
  rcases h.six ho h6 with e | ⟨d, e⟩
  · rw [e]; exact .inl rfl
  · exact .inr ⟨d, by rw [e]; rfl, by rw [← e]; exact ho⟩
theorem Whole.vol5 (h : Whole D l) : ∀ o ∈ l, o.kind = 5 → o.volume = sV := fun o ho h5 => by
  obtain ⟨d, _, e⟩ := h.five ho h5
  rw [e]
  rfl
theorem Whole.att_in (h : Whole D l) {d : ByteArray} (hd : attAt d ∈ l) : ∃ o ∈ attach_AttachmentsF l sV, o.node = d := by
  obtain ⟨y, hy, hn⟩ := atts_in l sV h.len h.vol5 (attAt d) hd rfl
  obtain ⟨e, _, he⟩ := h.five (atts_mem hy) ((atts_both l sV h.len).2 y hy).1
  refine ⟨y, hy, ?_⟩
  rw [he] at hn ⊢
  exact app_inj hn
theorem Whole.att_is (h : Whole D l) {o : XObj} (ho : o ∈ attach_AttachmentsF l sV) : ∃ d, D d ∧ o = attAt d ∧ attAt d ∈ l := by
  obtain ⟨d, hd, e⟩ := h.five (atts_mem ho) ((atts_both l sV h.len).2 o ho).1
  exact ⟨d, hd, e, by rw [← e]; exact atts_mem ho⟩
theorem Whole.home_in (h : Whole D l) : sN ∈ attach_WantedF l sV := by
  obtain ⟨r, hr⟩ := h.first
  have hP : wP ∈ l := by rw [hr]; simp
  exact h.pod_in hP rfl
theorem Whole.dgt_in (h : Whole D l) {x : Int} (hx : attAt (dgt x) ∈ l) : dgt x ∈ attach_WantedF l sV := h.pod_in ((h.pods x).1 hx) rfl
end
theorem rest_none (l : List XObj) (v : Int) (h : Whole (fun d => Dg d ∨ d = sN) l) : attach_VolumeF l v sV = default := by
  have hL : attach_VolumeLF l v sV (attach_AttachmentsF l sV) = (false, default) := volLF_rest l v sV _ fun o ho => by
    obtain ⟨d, hd, e, hm⟩ := h.att_is ho
    rw [e]
    refine ⟨rfl, ?_⟩
    show d ∈ attach_WantedF l sV
    rcases hd with ⟨x, rfl⟩ | rfl
    · exact h.dgt_in hm
    · exact h.home_in
  have hL1 : attach_VolumeL1F l v sV (attach_WantedF l sV) = (true, default) := volL1F_rest l v sV _ fun s hs => by
    rcases h.wanted_is hs with rfl | ⟨x, rfl, hx⟩
    · exact h.att_in h.home
    · exact h.att_in ((h.pods x).2 hx)
  unfold attach_VolumeF
  rw [h.get4, hL, hL1]
  rfl
theorem rest_one (l : List XObj) (v : Int) (h : Whole (fun d => Dg d ∨ d = sN ∨ d = sX) l) (hx : attAt sX ∈ l) : ∃ o, o.node = sX ∧ attach_VolumeF l v sV = attach_writeF o 9 v := by
  have hnot : sX ∉ attach_WantedF l sV := fun hs => by
    rcases h.wanted_is hs with e | ⟨x, e, _⟩
    · exact absurd e (by decide)
    · exact dgt_ne1 (d := sX) rfl e.symm
  obtain ⟨o, ho, hL⟩ := volLF_not l v sV sX hnot (attach_AttachmentsF l sV) (fun o ho => by
    obtain ⟨d, hd, e, hm⟩ := h.att_is ho
    rw [e]
    refine ⟨rfl, ?_⟩
    show d ∈ attach_WantedF l sV ∨ d = sX
    rcases hd with ⟨x, rfl⟩ | rfl | rfl
    · exact .inl (h.dgt_in hm)
    · exact .inl h.home_in
    · exact .inr rfl) (h.att_in hx)
  refine ⟨o, ho, ?_⟩
  unfold attach_VolumeF
  rw [h.get4, hL]
  rfl
theorem item_mono {D E : ByteArray → Prop} (h : ∀ d, D d → E d) {o : XObj} (ho : Item D o) : Item E o := by
  rcases ho with e | e | e | e | ⟨d, hd, e⟩
  · exact .inl e
  · exact .inr (.inl e)
  · exact .inr (.inr (.inl e))
  · exact .inr (.inr (.inr (.inl e)))
  · exact .inr (.inr (.inr (.inr ⟨d, h d hd, e⟩)))
theorem whole_one {L : List XObj} (h : Rests L) (hl : L.length ≤ 30) : Whole (fun d => Dg d ∨ d = sN) (L ++ [attAt sN]) := by
  obtain ⟨⟨r, hr⟩, h2, h3⟩ := h
  refine ⟨⟨r ++ [attAt sN], by rw [hr]; rfl⟩, fun o ho => ?_, fun x => ?_, List.mem_append_right _ (List.mem_singleton.2 rfl), by rw [List.length_append, List.length_cons, List.length_nil]; omega⟩
  · rcases List.mem_append.1 ho with ho | ho
    · exact item_mono (fun d hd => .inl hd) (h2 o ho)
    · exact .inr (.inr (.inr (.inr ⟨sN, .inr rfl, List.mem_singleton.1 ho⟩)))
  · constructor
    · intro hm
      rcases List.mem_append.1 hm with hm | hm
      · exact List.mem_append_left _ ((h3 x).1 hm)
      · exact absurd (congrArg XObj.node (List.mem_singleton.1 hm)) (dgt_ne1 (d := sN) rfl)
    · intro hm
      rcases List.mem_append.1 hm with hm | hm
      · exact List.mem_append_left _ ((h3 x).2 hm)
      · exact absurd (List.mem_singleton.1 hm) (pod_ne_att _ _)
theorem whole_two {L : List XObj} (h : Whole (fun d => Dg d ∨ d = sN) L) (hl : L.length ≤ 40) : Whole (fun d => Dg d ∨ d = sN ∨ d = sX) (L ++ [attAt sX]) := by
  obtain ⟨⟨r, hr⟩, h2, h3, h4, _⟩ := h
  refine ⟨⟨r ++ [attAt sX], by rw [hr]; rfl⟩, fun o ho => ?_, fun x => ?_, List.mem_append_left _ h4, by rw [List.length_append, List.length_cons, List.length_nil]; omega⟩
  · rcases List.mem_append.1 ho with ho | ho
    · exact item_mono (fun d hd => hd.imp id .inl) (h2 o ho)
    · exact .inr (.inr (.inr (.inr ⟨sX, .inr (.inr rfl), List.mem_singleton.1 ho⟩)))
  · constructor
    · intro hm
      rcases List.mem_append.1 hm with hm | hm
      · exact List.mem_append_left _ ((h3 x).1 hm)
      · exact absurd (congrArg XObj.node (List.mem_singleton.1 hm)) (dgt_ne1 (d := sX) rfl)
    · intro hm
      rcases List.mem_append.1 hm with hm | hm
      · exact List.mem_append_left _ ((h3 x).2 hm)
      · exact absurd (List.mem_singleton.1 hm) (pod_ne_att _ _)
theorem attachRests (a0 : List Int) (v : Int) : w13_AttachRestsF a0 v = true := by
  have hR := rests_all a0 9 0 [wC, wV, wP] (by decide) (by decide) rests_first
  have hlen := rests_len a0 9 0 [wC, wV, wP]
  have hlen' : (w13_AttachRestsLF a0 9 0 [wC, wV, wP]).length ≤ 21 := hlen
  have h1 := whole_one hR (by omega)
  have h2 := whole_two h1 (by rw [List.length_append, List.length_cons, List.length_nil]; omega)
  have e1 := rest_none _ v h1
  obtain ⟨o, ho, e2⟩ := rest_one _ v h2 (List.mem_append_right _ (List.mem_singleton.2 rfl))
  have hw : (w13_worldF.set 1 ({ (w13_worldF.getD 1 default) with mode := (2 : Int) } : XObj)) = [wC, wV, wP] := rfl
  have hN : (⟨(5 : Int), (⟨#[118, 47, 110]⟩ : ByteArray), (0 : Int), (0 : Int), false, false, (⟨#[]⟩ : ByteArray), (0 : Int), (0 : Int), (0 : Int), false, false, (⟨#[]⟩ : ByteArray), (⟨#[110]⟩ : ByteArray), (⟨#[]⟩ : ByteArray), (⟨#[118]⟩ : ByteArray), (⟨#[]⟩ : ByteArray), (8 : Int), (0 : Int), (0 : Int)⟩ : XObj) = attAt sN := by kernel_rfl
  have hX : (⟨(5 : Int), (⟨#[118, 47, 120]⟩ : ByteArray), (0 : Int), (0 : Int), false, false, (⟨#[]⟩ : ByteArray), (0 : Int), (0 : Int), (0 : Int), false, false, (⟨#[]⟩ : ByteArray), (⟨#[120]⟩ : ByteArray), (⟨#[]⟩ : ByteArray), (⟨#[118]⟩ : ByteArray), (⟨#[]⟩ : ByteArray), (8 : Int), (0 : Int), (0 : Int)⟩ : XObj) = attAt sX := by kernel_rfl
  unfold w13_AttachRestsF
  rw [live_true, hw, hN, hX, List.nil_append, show (8 + 1 : Nat) = 9 from rfl, e1, e2]
  have e3 : (attach_writeF o 9 v).obj.node = sX := ho
  rw [e3]
  rfl
end Go.Proofs.Ytbcnehpndoghcaa
