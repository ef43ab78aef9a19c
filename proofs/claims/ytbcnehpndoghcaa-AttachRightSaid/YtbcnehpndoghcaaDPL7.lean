/- Attach: plain laws: what is written is right. -/
import Derived.Test.YtbcnehpndoghcaaDPL5
import Derived.Test.YtbcnehpndoghcaaDH7
import Derived.Test.YtbcnehpndoghcaaDLawD
set_option linter.unusedVariables false
set_option linter.unusedSimpArgs false
set_option maxRecDepth 100000
namespace Go.Proofs.Ytbcnehpndoghcaa
open Go Go.Eng
/-- A right attachment. -/
def R5 (o : XObj) : Prop := r03_NameF o.name = true ∧ o.cls = (⟨#[]⟩ : ByteArray) ∧ o.size = 0 ∧ o.got = 0 ∧ o.mode = 0 ∧ o.keep = false ∧ o.wait = false ∧ o.zone = (⟨#[]⟩ : ByteArray) ∧ o.claim = (⟨#[]⟩ : ByteArray) ∧ o.source = (⟨#[]⟩ : ByteArray) ∧ o.tag = 0
  ∧ r03_maybeF o.node = true ∧ r03_maybeF o.volume = true ∧ o.volume ≠ (⟨#[]⟩ : ByteArray) ∧ o.node ≠ (⟨#[]⟩ : ByteArray) ∧ r03_plainF o.node = true ∧ o.name = r03_AttachNameF o.volume o.node ∧ (o.phase = 7 ∨ o.phase = 8 ∨ o.phase = 9)
theorem maybe_empty : r03_maybeF (⟨#[]⟩ : ByteArray) = true := rfl
theorem cond_and (a b : Bool) : cond a b false = (a && b) := by cases a <;> rfl
theorem cond_or (a b : Bool) : cond a true b = (a || b) := by cases a <;> rfl
theorem cond_not (a b : Bool) : cond a false b = (!a && b) := by cases a <;> rfl
theorem right5 (o : XObj) (h : o.kind = 5) : r03_RightF o = true ↔ R5 o := by
  obtain ⟨k, nm, ve, bo, de, ho, cl, sz, go, mo, ke, wa, zo, nd, cm, vo, so, ph, nu, tg⟩ := o
  dsimp only at h
  subst h
  unfold r03_RightF R5
  simp only [r03_bareF, cond_and, cond_or, cond_not, beq_self_eq_true, cond_true, show ((5 : Int) == 1) = false from rfl, show ((5 : Int) == 2) = false from rfl, show ((5 : Int) == 3) = false from rfl, show ((5 : Int) == 4) = false from rfl, cond_false, decide_true, Bool.and_true, Bool.true_and, Bool.and_eq_true, Bool.not_eq_true', Bool.or_eq_false_iff, Bool.not_eq_false', decide_eq_false_iff_not, decide_eq_true_eq, beq_iff_eq, Bool.or_eq_true, Int.not_lt]
  have he := maybe_empty
  grind
theorem right_node {o : XObj} (h : r03_RightF o = true) : r03_maybeF o.node = true := by
  unfold r03_RightF at h
  simp only [cond_and, cond_or, cond_not, Bool.and_eq_true, Bool.not_eq_true', Bool.or_eq_false_iff, Bool.not_eq_false'] at h
  grind
theorem right_name {o : XObj} (h : r03_RightF o = true) : r03_NameF o.name = true := by
  unfold r03_RightF at h
  simp only [cond_and, cond_or, cond_not, Bool.and_eq_true, Bool.not_eq_true', Bool.or_eq_false_iff, Bool.not_eq_false'] at h
  grind
theorem maybe_of {a : ByteArray} (h : r03_NameF a = true) : r03_maybeF a = true := by
  unfold r03_maybeF
  rw [h]
  cases decide (a = (⟨#[]⟩ : ByteArray)) <;> rfl
theorem name_ne {a : ByteArray} (h : r03_NameF a = true) : a ≠ (⟨#[]⟩ : ByteArray) := by
  rintro rfl
  revert h
  decide
theorem get_found (k : Int) (n : ByteArray) : ∀ l : List XObj, (r12_GetLF k n l).1 = true → (r12_GetLF k n l).2 ∈ l ∧ (r12_GetLF k n l).2.kind = k ∧ (r12_GetLF k n l).2.name = n
  | [], h => by cases h
  | o :: r, h => by
    unfold r12_GetLF at h ⊢
    cases h2 : cond (o.kind == k) (decide (o.name = n)) false with
    | true =>
      rw [cond_and, Bool.and_eq_true, beq_iff_eq, decide_eq_true_eq] at h2
      exact ⟨List.mem_cons_self, h2⟩
    | false =>
      rw [h2, cond_false] at h
      obtain ⟨h3, h4⟩ := get_found k n r h
      exact ⟨List.mem_cons_of_mem _ h3, h4⟩
theorem wanted_ne_it (a : List XObj) (n : ByteArray) : ∀ (l : List XObj) (v : List ByteArray) (m : List (XKey × Bool)), (∀ s ∈ v, s ≠ (⟨#[]⟩ : ByteArray)) → ∀ s ∈ attach_Wanted_itLF a n l v m, s ≠ (⟨#[]⟩ : ByteArray)
  | [], v, m, hv => by unfold attach_Wanted_itLF; exact hv
  | o :: r, v, m, hv => by
    unfold attach_Wanted_itLF
    cases (!((mget (k := .key) (v := .bool) m (object_KeyF o)).getD default)) with
    | true =>
      refine wanted_ne_it a n r _ _ fun s hs => ?_
      unfold attach_Wanted_rF at hs
      by_cases he : o.node = (⟨#[]⟩ : ByteArray)
      · rw [decide_eq_true he] at hs
        have : cond (cond (!(o.kind == (6 : Int))) true o.deleting) true true = true := by cases cond (!(o.kind == (6 : Int))) true o.deleting <;> rfl
        rw [this] at hs
        exact hv s hs
      · generalize cond (cond (!(o.kind == (6 : Int))) true o.deleting) true (decide (o.node = (⟨#[]⟩ : ByteArray))) = b1 at hs
        generalize cond (cond ((attach_getF a (3 : Int) o.claim).2) ((((attach_getF a (3 : Int) o.claim).1).phase) == (3 : Int)) false) (decide ((((attach_getF a (3 : Int) o.claim).1).volume) = n)) false = b2 at hs
        cases b1
        · cases b2
          · exact hv s hs
          · rcases putS_mem hs with rfl | h
            · exact he
            · exact hv s h
        · exact hv s hs
    | false => exact wanted_ne_it a n r _ _ hv
theorem wanted_ne (l : List XObj) (n : ByteArray) : ∀ s ∈ attach_WantedF l n, s ≠ (⟨#[]⟩ : ByteArray) := by
  unfold attach_WantedF
  have := wanted_ne_it l n l [] [] (fun s hs => by simp at hs)
  generalize cond (!((attach_getF l (4 : Int) n).2)) true (!((((attach_getF l (4 : Int) n).1).phase) == (3 : Int))) = b
  cases b with
  | true => intro s hs; simp at hs
  | false => exact this
theorem wanted_maybe (l : List XObj) (n : ByteArray) (h : ∀ o ∈ l, r03_RightF o = true) : ∀ s ∈ attach_WantedF l n, r03_maybeF s = true := by
  unfold attach_WantedF
  have := Wanted_it_mem l n (P := fun s => r03_maybeF s = true) l [] [] (fun o ho => right_node (h o ho)) (fun s hs => by simp at hs)
  generalize cond (!((attach_getF l (4 : Int) n).2)) true (!((((attach_getF l (4 : Int) n).1).phase) == (3 : Int))) = b
  cases b with
  | true => intro s hs; simp at hs
  | false => exact this
theorem rightLF : ∀ l : List XObj, w13_AttachRightLF l = false → ∀ o ∈ l, r03_RightF o = true
  | [], _, o, ho => by simp at ho
  | x :: r, h, o, ho => by
    unfold w13_AttachRightLF at h
    cases hx : r03_RightF x with
    | false => rw [hx] at h; cases h
    | true =>
      rw [hx] at h
      rcases List.mem_cons.1 ho with rfl | ho
      · exact hx
      · exact rightLF r h o ho
theorem plain_eq (a : List XObj) (v : Int) (n : ByteArray) : ∀ k i, w13_AttachRightL1F a v n k i = r03_plainLF ((attach_VolumeF (w13_fewF a) v n).obj.node) k i
  | 0, _ => rfl
  | k + 1, i => by
    unfold w13_AttachRightL1F r03_plainLF
    rw [plain_eq a v n k (i + 1)]
theorem attachRight (l : List XObj) (v : Int) (n : ByteArray) : w13_AttachRightF l v n = true := by
  have hl : (w13_fewF l).length ≤ 64 := Nat.le_trans (w13_few_len l) (by decide)
  unfold w13_AttachRightF
  rw [live_true]
  cases hr : w13_AttachRightLF (w13_fewF l) with
  | true => rfl
  | false =>
    have hR := rightLF _ hr
    rw [cond_false]
    have key : ((attach_VolumeF (w13_fewF l) v n).act == (1 : Int)) = true → (w13_AttachRightL1F l v n (((attach_VolumeF (w13_fewF l) v n).obj.node).size) 0 = false ∨ ((attach_VolumeF (w13_fewF l) v n).obj.version == (0 : Int)) = false) → r03_RightF (attach_VolumeF (w13_fewF l) v n).obj = true := by
      intro h1 h2
      rw [plain_eq] at h2
      rcases vol_cases (w13_fewF l) v n with h | ⟨o, ho, h, _⟩ | ⟨s, hs, h, _, hg⟩
      · exact absurd (by simpa using h1) h
      · have hk := (atts_both _ n hl).2 o ho
        have h5 := (right5 o hk.1).1 (hR o (atts_mem ho))
        rw [h]
        refine (right5 (attach_writeF o 9 v).obj hk.1).2 ?_
        obtain ⟨e1, e2, e3, e4, e5, e6, e7, e8, e9, e10, e11, e12, e13, e14, e15, e16, e17, _⟩ := h5
        exact ⟨e1, e2, e3, e4, e5, e6, e7, e8, e9, e10, e11, e12, e13, e14, e15, e16, e17, .inr (.inr rfl)⟩
      · have hq : object_NameF (attF n s) = true := by
          rcases vol_obj (w13_fewF l) v n with e | ⟨o, _, e⟩ | ⟨s2, _, e, hq⟩
          · rw [h] at e
            exact absurd (congrArg XObj.kind e) (by show ¬ (5 : Int) = 0; decide)
          · rw [h] at e
            exact absurd (congrArg XObj.phase e) (by show ¬ (7 : Int) = 9; decide)
          · rw [h] at e
            have : (attach_writeF (newAtt n s) 7 v).obj.name = attF n s2 := congrArg XObj.name e
            rw [show attF n s = attF n s2 from this]
            exact hq
        rw [h] at h2 ⊢
        have hpl : r03_plainLF s s.size 0 = false := by
          rcases h2 with h2 | h2
          · exact h2
          · exact absurd h2 (by show ¬ ((0 : Int) == 0) = false; decide)
        rw [attach_get_eq, r12_Get_eq] at hg
        obtain ⟨g1, _, g3⟩ := get_found 4 n _ hg
        have hn := right_name (hR _ g1)
        rw [g3] at hn
        refine (right5 _ rfl).2 ?_
        refine ⟨?_, rfl, rfl, rfl, rfl, rfl, rfl, rfl, rfl, rfl, rfl, wanted_maybe _ n hR s hs, maybe_of hn, name_ne hn, wanted_ne _ n s hs, ?_, rfl, .inl rfl⟩
        · rw [← name_same]; exact hq
        · show r03_plainF s = true
          unfold r03_plainF
          rw [hpl]; rfl
    cases h1 : ((attach_VolumeF (w13_fewF l) v n).act == (1 : Int)) with
    | false => rfl
    | true =>
      simp only [cond_true, Bool.not_true, cond_false]
      cases h3 : ((attach_VolumeF (w13_fewF l) v n).obj.version == (0 : Int)) with
      | false => exact key h1 (.inr h3)
      | true =>
        rw [cond_true]
        cases h4 : w13_AttachRightL1F l v n (((attach_VolumeF (w13_fewF l) v n).obj.node).size) 0 with
        | true => rfl
        | false => exact key h1 (.inl h4)
end Go.Proofs.Ytbcnehpndoghcaa
