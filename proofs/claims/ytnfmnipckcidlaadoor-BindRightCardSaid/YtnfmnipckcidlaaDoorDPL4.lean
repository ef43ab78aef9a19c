/- Binding: plain laws: one of each name, the first of a name, the best volume. -/
import Derived.Test.YtnfmnipckcidlaaDoorDPL3
import Derived.Test.YtnfmnipckcidlaaDoorDLawD
import Derived.Test.YtnfmnipckcidlaaDoorDLawE
set_option linter.unusedVariables false
set_option linter.unusedSimpArgs false
set_option maxRecDepth 100000
namespace Go.Proofs.YtnfmnipckcidlaaDoor
open Go Go.Eng
theorem uniq_get (k : Int) (n : ByteArray) : ∀ l v : List XObj, r12_GetLF k n (r12_UniqLF l v) = r12_GetLF k n (v ++ l)
  | [], v => by unfold r12_UniqLF; rw [List.append_nil]
  | o :: r, v => by
    unfold r12_UniqLF
    cases h : (r12_GetF v o.kind o.name).2 with
    | false =>
      rw [Bool.not_false, cond_true, uniq_get k n r, List.append_assoc]
      rfl
    | true =>
      rw [Bool.not_true, cond_false, uniq_get k n r, r12_GetLF_append, r12_GetLF_append]
      rw [show r12_GetLF k n (o :: r) = cond (cond (o.kind == k) (decide (o.name = n)) false) (true, o) (r12_GetLF k n r) from rfl]
      by_cases hk : cond (o.kind == k) (decide (o.name = n)) false = true
      · have h1 : o.kind = k ∧ o.name = n := by
          cases h3 : o.kind == k <;> rw [h3] at hk
          · cases hk
          · exact ⟨by simpa using h3, by simpa using hk⟩
        have h2 : (r12_GetLF k n v).1 = true := by
          rw [r12_Get_eq, h1.1, h1.2] at h
          exact h
        rw [h2]; rfl
      · rw [eq_false_of_ne_true hk, cond_false]
theorem get_uniq (l : List XObj) (k : Int) (n : ByteArray) : r12_GetF (r12_UniqF l) k n = r12_GetF l k n := by
  rw [r12_Get_eq, r12_Get_eq]
  unfold r12_UniqF
  rw [uniq_get k n l [], List.nil_append]
theorem get_here (k : Int) (n : ByteArray) : ∀ l : List XObj, (r12_GetLF k n l).1 = true → (r12_GetLF k n l).2 ∈ l
  | [], h => by cases h
  | o :: r, h => by
    unfold r12_GetLF at h ⊢
    cases h2 : cond (o.kind == k) (decide (o.name = n)) false with
    | true => exact List.mem_cons_self
    | false => rw [h2, cond_false] at h; exact List.mem_cons_of_mem _ (get_here k n r h)
theorem first_no (l : List XObj) (a : Int) : ∀ (n i : Nat), w12_firstLF l a n i = false → ∀ j, i ≤ j → j < i + n → ¬ ((l.getD j default).kind = (l.getD a.toNat default).kind ∧ (l.getD j default).name = (l.getD a.toNat default).name)
  | 0, i, _, j, h1, h2 => by omega
  | n + 1, i, h, j, h1, h2 => by
    unfold w12_firstLF r03_KeyF at h
    cases hk : ((l.getD i default).kind == (l.getD a.toNat default).kind) && (decide ((l.getD i default).name = (l.getD a.toNat default).name)) with
    | true => dsimp only at h; rw [hk] at h; cases h
    | false =>
      dsimp only at h
      rw [hk, cond_false] at h
      by_cases e : j = i
      · subst e
        rintro ⟨q1, q2⟩
        rw [q1, q2] at hk
        simp at hk
      · exact first_no l a n (i + 1) h j (by omega) (by omega)
theorem get_first (k : Int) (n : ByteArray) : ∀ (l : List XObj) (i : Nat), i < l.length → (l.getD i default).kind = k → (l.getD i default).name = n → (∀ j, j < i → ¬ ((l.getD j default).kind = k ∧ (l.getD j default).name = n)) → r12_GetLF k n l = (true, l.getD i default)
  | [], i, h, _, _, _ => by simp at h
  | o :: r, 0, _, h1, h2, _ => by
    unfold r12_GetLF
    rw [List.getD_cons_zero] at h1 h2 ⊢
    rw [h1, h2]
    simp
  | o :: r, i + 1, h, h1, h2, h3 => by
    unfold r12_GetLF
    have h0 := h3 0 (by omega)
    rw [List.getD_cons_zero] at h0
    have : cond (o.kind == k) (decide (o.name = n)) false = false := by
      cases q1 : o.kind == k with
      | false => rfl
      | true =>
        simp only [cond_true, decide_eq_false_iff_not]
        exact fun q2 => h0 ⟨by simpa using q1, q2⟩
    rw [this, cond_false]
    rw [List.getD_cons_succ] at h1 h2 ⊢
    exact get_first k n r i (by simpa using h) h1 h2 (fun j hj => by have := h3 (j + 1) (by omega); rwa [List.getD_cons_succ] at this)
theorem first_mem (l : List XObj) (i : Nat) (h : i < l.length) (hf : w12_firstF l (i : Int) = true) : l.getD i default ∈ r12_UniqF l := by
  have h1 : w12_firstLF l (i : Int) ((i : Int).toNat) 0 = false := by
    unfold w12_firstF at hf
    cases q : w12_firstLF l (i : Int) ((i : Int).toNat) 0 with
    | false => rfl
    | true => rw [q] at hf; cases hf
  have h2 := first_no l i _ 0 h1
  simp only [Int.toNat_natCast] at h2
  have h3 := get_first _ _ l i h rfl rfl (fun j hj => h2 j (Nat.zero_le _) (by omega))
  have h4 := uniq_get ((l.getD i default).kind) ((l.getD i default).name) l []
  rw [List.nil_append, h3] at h4
  have h5 := get_here ((l.getD i default).kind) ((l.getD i default).name) (r12_UniqLF l []) (by rw [h4])
  rw [h4] at h5
  exact h5
/-- A volume fits a claim. -/
def fitB (a : List XObj) (c o : XObj) : Bool := !(cond (cond (cond (cond (cond (cond (!((o.kind) == (4 : Int))) true (!((o.phase) == (4 : Int)))) true (o.deleting)) true (!(decide ((o.cls) = c.cls)))) true (!((o.mode) == c.mode))) true (decide ((o.got) < c.size))) true (cond (cond ((r12_GetF (r12_UniqF a) (2 : Int) c.node).2) (!(decide (c.node = (⟨#[]⟩ : ByteArray)))) false) (!(decide ((o.zone) = (((r12_GetF (r12_UniqF a) (2 : Int) c.node).1).zone)))) false))
theorem best_law (a : List XObj) (c : XObj) : ∀ (l : List XObj) (b : Bool) (v : XObj),
    (b = true → (r12_BestLF a c l b v).1 = true ∧ (r12_BestLF a c l b v).2.got ≤ v.got)
    ∧ (∀ o ∈ l, fitB a c o = true → (r12_BestLF a c l b v).1 = true ∧ (r12_BestLF a c l b v).2.got ≤ o.got)
    ∧ ((r12_BestLF a c l b v).1 = true → (b = true ∧ (r12_BestLF a c l b v).2 = v) ∨ ∃ o ∈ l, fitB a c o = true ∧ (r12_BestLF a c l b v).2 = o)
  | [], b, v => ⟨fun h => ⟨h, Int.le_refl _⟩, fun o ho => by simp at ho, fun h => .inl ⟨h, rfl⟩⟩
  | o :: r, b, v => by
    unfold r12_BestLF
    cases hx : fitB a c o with
    | false =>
      have hx' : (cond (cond (cond (cond (cond (cond (!((o.kind) == (4 : Int))) true (!((o.phase) == (4 : Int)))) true (o.deleting)) true (!(decide ((o.cls) = c.cls)))) true (!((o.mode) == c.mode))) true (decide ((o.got) < c.size))) true (cond (cond ((r12_GetF (r12_UniqF a) (2 : Int) c.node).2) (!(decide (c.node = (⟨#[]⟩ : ByteArray)))) false) (!(decide ((o.zone) = (((r12_GetF (r12_UniqF a) (2 : Int) c.node).1).zone)))) false)) = true := by
        unfold fitB at hx
        simpa only [Bool.not_eq_false'] using hx
      rw [hx', cond_true]
      obtain ⟨h1, h2, h3⟩ := best_law a c r b v
      refine ⟨h1, fun p hp hq => ?_, fun h => ?_⟩
      · rcases List.mem_cons.1 hp with rfl | hp
        · rw [hx] at hq; cases hq
        · exact h2 p hp hq
      · rcases h3 h with h | ⟨p, hp, hq⟩
        · exact .inl h
        · exact .inr ⟨p, List.mem_cons_of_mem _ hp, hq⟩
    | true =>
      have hx' : (cond (cond (cond (cond (cond (cond (!((o.kind) == (4 : Int))) true (!((o.phase) == (4 : Int)))) true (o.deleting)) true (!(decide ((o.cls) = c.cls)))) true (!((o.mode) == c.mode))) true (decide ((o.got) < c.size))) true (cond (cond ((r12_GetF (r12_UniqF a) (2 : Int) c.node).2) (!(decide (c.node = (⟨#[]⟩ : ByteArray)))) false) (!(decide ((o.zone) = (((r12_GetF (r12_UniqF a) (2 : Int) c.node).1).zone)))) false)) = false := by
        unfold fitB at hx
        simpa only [Bool.not_eq_true'] using hx
      rw [hx', cond_false]
      cases h0 : (cond (cond (!b) true (decide (o.got < v.got))) true (cond (o.got == v.got) (strLess o.name v.name) false)) with
      | true =>
        rw [cond_true]
        obtain ⟨h1, h2, h3⟩ := best_law a c r true o
        have h1 := h1 rfl
        refine ⟨fun hb => ⟨h1.1, ?_⟩, fun p hp hq => ?_, fun h => ?_⟩
        · subst hb
          have : o.got ≤ v.got := by
            by_cases q : o.got < v.got
            · omega
            · have : (o.got == v.got) = true := by
                cases q2 : o.got == v.got with
                | true => rfl
                | false => simp [q, q2] at h0
              have : o.got = v.got := by simpa using this
              omega
          omega
        · rcases List.mem_cons.1 hp with rfl | hp
          · exact h1
          · exact h2 p hp hq
        · rcases h3 h with ⟨_, h⟩ | ⟨p, hp, hq⟩
          · exact .inr ⟨o, List.mem_cons_self, hx, h⟩
          · exact .inr ⟨p, List.mem_cons_of_mem _ hp, hq⟩
      | false =>
        rw [cond_false]
        have hb : b = true := by
          cases b with
          | true => rfl
          | false => simp at h0
        subst hb
        have hv : v.got ≤ o.got := by
          by_cases q : o.got < v.got
          · simp [q] at h0
          · omega
        obtain ⟨h1, h2, h3⟩ := best_law a c r true v
        have h1 := h1 rfl
        refine ⟨fun _ => h1, fun p hp hq => ?_, fun h => ?_⟩
        · rcases List.mem_cons.1 hp with rfl | hp
          · exact ⟨h1.1, by omega⟩
          · exact h2 p hp hq
        · rcases h3 h with h | ⟨p, hp, hq⟩
          · exact .inl h
          · exact .inr ⟨p, List.mem_cons_of_mem _ hp, hq⟩
theorem best_some (l : List XObj) (c : XObj) : (bind_BestF l c).2 = true → fitB l c (bind_BestF l c).1 = true := by
  rw [best_eq]
  intro h
  rcases (best_law l c (r12_UniqF l) false default).2.2 h with ⟨h, _⟩ | ⟨o, _, h1, h2⟩
  · cases h
  · show fitB l c (r12_BestLF l c (r12_UniqF l) false default).2 = true
    rw [h2]; exact h1
theorem best_le (l : List XObj) (c o : XObj) (h : o ∈ r12_UniqF l) (hf : fitB l c o = true) : (bind_BestF l c).2 = true ∧ (bind_BestF l c).1.got ≤ o.got := by
  rw [best_eq]
  exact (best_law l c (r12_UniqF l) false default).2.1 o h hf
end Go.Proofs.YtnfmnipckcidlaaDoor
