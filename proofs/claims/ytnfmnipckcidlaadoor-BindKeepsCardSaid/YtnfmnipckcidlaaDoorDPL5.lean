/- Binding: plain laws: fits, keeps. -/
import Derived.Test.YtnfmnipckcidlaaDoorDPL4
set_option linter.unusedVariables false
set_option linter.unusedSimpArgs false
set_option maxRecDepth 100000
namespace Go.Proofs.YtnfmnipckcidlaaDoor
open Go Go.Eng
theorem drop_cons {l r : List XObj} {o : XObj} {i : Nat} (h : l.drop i = o :: r) : i < l.length ∧ l.getD i default = o ∧ l.drop (i + 1) = r := by
  have h1 : i < l.length := by
    rcases Nat.lt_or_ge i l.length with q | q
    · exact q
    · rw [List.drop_eq_nil_of_le q] at h; cases h
  rw [List.drop_eq_getElem_cons h1] at h
  obtain ⟨h2, h3⟩ := List.cons.inj h
  exact ⟨h1, by rw [List.getD_eq_getElem?_getD, List.getElem?_eq_getElem h1]; exact h2, h3⟩
theorem fits_no (a : List XObj) (c : XObj) : ∀ (l : List XObj) (i : Nat), (w12_fewF a).drop i = l → w12_BindFitsLF a c l i = false
  | [], i, _ => rfl
  | o :: r, i, h => by
    obtain ⟨h1, h2, h3⟩ := drop_cons h
    unfold w12_BindFitsLF
    rw [fits_no a c r (i + 1) h3]
    cases hc : (cond (cond (cond (cond (cond (cond (cond ((o.kind) == (4 : Int)) ((o.phase) == (4 : Int)) false) (!(o.deleting)) false) (decide ((o.cls) = c.cls)) false) ((o.mode) == c.mode) false) (decide ((o.got) ≥ c.size)) false) (w12_firstF (w12_fewF a) (i : Int)) false) (decide (c.node = (⟨#[]⟩ : ByteArray))) false) with
    | false => rfl
    | true =>
      have hf : w12_firstF (w12_fewF a) (i : Int) = true ∧ fitB (w12_fewF a) c o = true := by
        unfold fitB
        revert hc
        cases (o.kind) == (4 : Int) <;> cases (o.phase) == (4 : Int) <;> cases o.deleting <;> cases decide ((o.cls) = c.cls) <;> cases (o.mode) == c.mode <;> cases hg : decide ((o.got) ≥ c.size) <;> cases w12_firstF (w12_fewF a) (i : Int) <;> cases decide (c.node = (⟨#[]⟩ : ByteArray)) <;> simp
        have hg' := of_decide_eq_true hg
        cases (r12_GetF (r12_UniqF (w12_fewF a)) 2 c.node).2 <;> simp <;> omega
      have hm := first_mem (w12_fewF a) i h1 hf.1
      rw [h2] at hm
      obtain ⟨hb, hl⟩ := best_le (w12_fewF a) c o hm hf.2
      rw [hb]
      have : decide (o.got < (bind_BestF (w12_fewF a) c).1.got) = false := decide_eq_false (by omega)
      rw [this]
      rfl
theorem bindFits (l : List XObj) (c : XObj) : w12_BindFitsF l c = true := by
  unfold w12_BindFitsF
  rw [live_true, fits_no l c (w12_fewF l) 0 rfl]
  rw [cond_false, cond_true]
  cases hb : (bind_BestF (w12_fewF l) c).2 with
  | false => rfl
  | true =>
    have h := best_some _ _ hb
    revert h
    unfold fitB
    generalize (bind_BestF (w12_fewF l) c).1 = o
    rw [show decide (o.got ≥ c.size) = !(decide (o.got < c.size)) by
      by_cases q : o.got < c.size
      · simp [q]
      · simp [q, Int.not_lt.1 q]]
    cases (o.kind) == (4 : Int) <;> cases (o.phase) == (4 : Int) <;> cases o.deleting <;> cases decide ((o.cls) = c.cls) <;> cases (o.mode) == c.mode <;> cases decide ((o.got) < c.size) <;> simp
theorem vol_cases (l : List XObj) (v : Int) (n : ByteArray) :
    (bind_VolumeF l v n).act ≠ 1
    ∨ ((bind_VolumeF l v n).act = 1 ∧ (bind_VolumeF l v n).obj.phase = 5 ∧ (bind_VolumeF l v n).obj.keep = true)
    ∨ ((bind_VolumeF l v n).act = 1 ∧ (bind_VolumeF l v n).obj.phase = 6 ∧ (bind_VolumeF l v n).obj.keep = false ∧ (bind_VolumeF l v n).obj.num = IntKind.u64.wrap (v + 1)
      ∧ (((r12_GetF (r12_UniqF l) 4 n).1.phase = 3 → r12_VolumeLF l n (r12_UniqF l) = false) ∧ (bind_VolumeF l v n).obj.claim = (r12_GetF (r12_UniqF l) 4 n).1.claim)) := by
  rw [Volume_eq]
  unfold r12_VolumeF r12_WriteF r12_AskF
  generalize hg : r12_GetF (r12_UniqF l) 4 n = g
  obtain ⟨c, b⟩ := g
  dsimp only
  cases b with
  | false => exact .inl (by simp; decide)
  | true =>
    simp only [Bool.not_true, cond_false]
    cases h4 : c.phase == (4 : Int) with
    | true =>
      have h4' : c.phase = 4 := by simpa using h4
      cases hd : c.deleting <;> cases hk : c.keep
      · exact .inl (by simp; decide)
      · exact .inl (by simp; decide)
      · exact .inr (.inr ⟨rfl, rfl, by first | exact hk | rfl, rfl, fun h => by omega, rfl⟩)
      · exact .inl (by simp; decide)
    | false =>
      cases h3 : c.phase == (3 : Int) with
      | true =>
        cases hl : r12_VolumeLF l n (r12_UniqF l) <;> cases hk : c.keep
        · exact .inr (.inr ⟨rfl, rfl, by first | exact hk | rfl, rfl, fun _ => rfl, rfl⟩)
        · exact .inr (.inl ⟨rfl, rfl, by first | exact hk | rfl⟩)
        · exact .inl (by simp; decide)
        · exact .inl (by simp; decide)
      | false =>
        cases h6 : c.phase == (6 : Int) <;> cases hl : r12_VolumeL1F n (r12_UniqF l) <;> exact .inl (by simp <;> decide)
theorem volL_mem (a : List XObj) (n : ByteArray) (o : XObj) (hk : o.kind = 3) (hr : r12_RefF o = (r12_GetF (r12_UniqF a) 4 n).1.claim) : ∀ l : List XObj, o ∈ l → r12_VolumeLF a n l = true
  | p :: r, h => by
    unfold r12_VolumeLF
    rcases List.mem_cons.1 h with rfl | h
    · rw [hk, hr]; simp
    · rw [volL_mem a n o hk hr r h]
      cases cond (p.kind == (3 : Int)) (decide (r12_RefF p = (r12_GetF (r12_UniqF a) 4 n).1.claim)) false <;> rfl
theorem keeps_no (a : List XObj) (v : Int) (n : ByteArray) (hv : (r12_GetF (r12_UniqF (w12_fewF a)) 4 n).1.phase = 3 → r12_VolumeLF (w12_fewF a) n (r12_UniqF (w12_fewF a)) = false)
    (hc : (bind_VolumeF (w12_fewF a) v n).obj.claim = (r12_GetF (r12_UniqF (w12_fewF a)) 4 n).1.claim) :
    ∀ (l : List XObj) (i : Nat), (w12_fewF a).drop i = l → w12_BindKeepsLF a v n l i = false
  | [], i, _ => rfl
  | o :: r, i, h => by
    obtain ⟨h1, h2, h3⟩ := drop_cons h
    unfold w12_BindKeepsLF
    rw [keeps_no a v n hv hc r (i + 1) h3]
    rw [hc]
    cases q1 : (cond (cond ((o.kind) == (3 : Int)) (!(decide ((r12_GetF (r12_UniqF (w12_fewF a)) 4 n).1.claim = (⟨#[]⟩ : ByteArray)))) false) (decide ((r12_RefF o) = (r12_GetF (r12_UniqF (w12_fewF a)) 4 n).1.claim)) false) with
    | false => rfl
    | true =>
      cases q2 : (cond ((((r12_GetF (w12_fewF a) (4 : Int) n).1).phase) == (3 : Int)) (w12_firstF (w12_fewF a) (i : Int)) false) with
      | false => rfl
      | true =>
        exfalso
        cases q3 : (((r12_GetF (w12_fewF a) (4 : Int) n).1).phase) == (3 : Int) with
        | false => rw [q3] at q2; cases q2
        | true =>
          rw [q3, cond_true] at q2
          have hm := first_mem (w12_fewF a) i h1 q2
          rw [h2] at hm
          rw [← get_uniq] at q3
          have h5 := hv (by simpa using q3)
          cases q4 : (o.kind) == (3 : Int) with
          | false => rw [q4] at q1; simp at q1
          | true =>
            rw [q4, cond_true] at q1
            cases q5 : decide ((r12_RefF o) = (r12_GetF (r12_UniqF (w12_fewF a)) 4 n).1.claim) with
            | false => rw [q5] at q1; simp at q1
            | true =>
              rw [volL_mem (w12_fewF a) n o (by simpa using q4) (of_decide_eq_true q5) _ hm] at h5
              cases h5
theorem bindKeeps (l : List XObj) (v : Int) (n : ByteArray) : w12_BindKeepsF l v n = true := by
  unfold w12_BindKeepsF
  rw [live_true]
  rcases vol_cases (w12_fewF l) v n with h | ⟨h1, h2, h3⟩ | ⟨h1, h2, h3, h4, h5, h6⟩
  · have : ((bind_VolumeF (w12_fewF l) v n).act == (1 : Int)) = false := by simpa using h
    rw [this]; rfl
  · rw [h1, h2, h3]; rfl
  · rw [keeps_no l v n h5 h6 (w12_fewF l) 0 rfl, h1, h2, h3, h4]
    simp
end Go.Proofs.YtnfmnipckcidlaaDoor
