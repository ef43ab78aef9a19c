/- Data: plain laws: what is written is right. -/
import Derived.Test.YtondcpkhedjajaaDoorDPL5
import Derived.Test.YtondcpkhedjajaaDoorDLawD
set_option linter.unusedVariables false
set_option linter.unusedSimpArgs false
set_option maxRecDepth 100000
namespace Go.Proofs.YtondcpkhedjajaaDoor
open Go Go.Eng
theorem right_claim {c v : XObj} (hc : r03_RightF c = true) (hv : r03_RightF v = true) (kc : c.kind = 3) (kv : v.kind = 4) : r03_RightF { c with got := v.got } = true := by
  unfold r03_RightF r03_bareF at hc hv ⊢
  simp [kc, kv] at hc hv ⊢
  obtain ⟨⟨⟨⟨a1, a2⟩, _⟩, _⟩, a3⟩ := hc
  obtain ⟨⟨⟨⟨_, _⟩, b1⟩, b2⟩, _⟩ := hv
  exact ⟨⟨⟨⟨a1, a2⟩, b1⟩, b2⟩, a3⟩
theorem right_volume {c v : XObj} (num : Int) (hc : r03_RightF c = true) (hv : r03_RightF v = true) (kc : c.kind = 3) (kv : v.kind = 4) : r03_RightF { v with size := (if c.size > v.size then c.size else v.size), num := num } = true := by
  unfold r03_RightF r03_bareF at hc hv ⊢
  simp [kc, kv] at hc hv ⊢
  obtain ⟨⟨⟨⟨⟨_, c1⟩, c2⟩, _⟩, _⟩, ⟨⟨⟨⟨_, c3⟩, _⟩, _⟩, _⟩⟩ := hc
  obtain ⟨⟨⟨⟨⟨a1, a2⟩, a3⟩, a4⟩, a5⟩, ⟨⟨⟨⟨⟨a6, a7⟩, a8⟩, a9⟩, a10⟩, a11⟩⟩ := hv
  refine ⟨⟨⟨⟨⟨a1, ?_⟩, ?_⟩, a4⟩, a5⟩, ⟨⟨⟨⟨⟨a6, ?_⟩, a8⟩, a9⟩, a10⟩, a11⟩⟩ <;> (try split) <;> first | omega | assumption
theorem right_erasing {s : XObj} (num : Int) (hs : r03_RightF s = true) (ks : s.kind = 7) : r03_RightF { s with phase := 6, num := num } = true := by
  unfold r03_RightF r03_bareF at hs ⊢
  simp [ks] at hs ⊢
  exact ⟨hs.1, hs.2.1⟩
theorem right_name {v : XObj} (hv : r03_RightF v = true) : r03_maybeF v.name = true := by
  unfold r03_RightF at hv
  unfold r03_maybeF
  cases h : r03_NameF v.name with
  | true => simp
  | false => rw [h] at hv; simp at hv
theorem right_cutting {s v : XObj} (num : Int) (hs : r03_RightF s = true) (hv : r03_RightF v = true) (ks : s.kind = 7) : r03_RightF { s with phase := 10, volume := v.name, num := num } = true := by
  have hn := right_name hv
  clear hv
  unfold r03_RightF r03_bareF at hs ⊢
  simp [ks] at hs ⊢
  obtain ⟨⟨⟨⟨⟨⟨a0, ⟨⟨a1, _⟩, a2⟩⟩, c1⟩, c2⟩, c3⟩, c4⟩, a7, _⟩ := hs
  exact ⟨⟨⟨⟨⟨⟨a0, ⟨⟨a1, hn⟩, a2⟩⟩, c1⟩, c2⟩, c3⟩, c4⟩, a7⟩
/-- What is done for a claim: nothing or a question; the claim; its volume: both are there. -/
theorem Claim_cases2 (l : List XObj) (ver : Int) (n : ByteArray) : (data_ClaimF l ver n).act ≠ 1 ∨
    ((data_getF l 3 n).2 = true ∧ (data_getF l 4 (data_getF l 3 n).1.volume).2 = true ∧ data_ClaimF l ver n = ⟨1, { (data_getF l 3 n).1 with got := (data_getF l 4 (data_getF l 3 n).1.volume).1.got }, default⟩) ∨
    ((data_getF l 3 n).2 = true ∧ (data_getF l 4 (data_getF l 3 n).1.volume).2 = true ∧ data_ClaimF l ver n = ⟨1, { (data_getF l 4 (data_getF l 3 n).1.volume).1 with size := (if (data_getF l 3 n).1.size > (data_getF l 4 (data_getF l 3 n).1.volume).1.size then (data_getF l 3 n).1.size else (data_getF l 4 (data_getF l 3 n).1.volume).1.size), num := IntKind.u64.wrap (ver + 1) }, default⟩) := by
  rcases Claim_cases l ver n with h | ⟨hc, h⟩ | h
  · exact .inl h
  · by_cases hv : (data_getF l 4 (data_getF l 3 n).1.volume).2 = true
    · exact .inr (.inl ⟨hc, hv, h⟩)
    · left
      have hv : (data_getF l 4 (data_getF l 3 n).1.volume).2 = false := by simpa using hv
      unfold data_ClaimF
      have hb : (data_boundF l n).2.2 = false := by
        unfold data_boundF
        rw [hv]
        cases (cond (!(data_getF l 3 n).2) true (!(data_getF l 3 n).1.phase == 3)) <;> rfl
      rw [hb]
      exact (by decide : (0 : Int) ≠ 1)
  · exact .inr (.inr h)
theorem Snapshot_cases (l : List XObj) (ver : Int) (n : ByteArray) : (data_SnapshotF l ver n).act ≠ 1 ∨
    ((data_getF l 7 n).2 = true ∧ data_SnapshotF l ver n = ⟨1, { (data_getF l 7 n).1 with phase := 6, num := IntKind.u64.wrap (ver + 1) }, default⟩) ∨
    ((data_getF l 7 n).2 = true ∧ ∃ v : XObj, v ∈ l ∧ data_SnapshotF l ver n = ⟨1, { (data_getF l 7 n).1 with phase := 10, volume := v.name, num := IntKind.u64.wrap (ver + 1) }, default⟩) := by
  unfold data_SnapshotF
  cases hs : (data_getF l 7 n).2
  · left; exact (by decide : (0 : Int) ≠ 1)
  cases cond (cond (!true) true (decide (data_HandleF (data_getF l 7 n).1 = ⟨#[]⟩))) true (cond (data_getF l 7 n).1.deleting (data_restoredF l n) false)
  rotate_left
  · left; exact (by decide : (0 : Int) ≠ 1)
  cases (data_getF l 7 n).1.phase == 6
  rotate_left
  · left; exact (by decide : (3 : Int) ≠ 1)
  cases (data_getF l 7 n).1.deleting
  rotate_left
  · right; left; exact ⟨rfl, rfl⟩
  cases (data_getF l 7 n).1.phase == 10
  rotate_left
  · left; exact (by decide : (3 : Int) ≠ 1)
  cases (data_getF l 7 n).1.phase == 1
  · left; exact (by decide : (0 : Int) ≠ 1)
  cases hb : (data_boundF l (data_getF l 7 n).1.source).2.2
  · left; exact (by decide : (0 : Int) ≠ 1)
  · right; right
    refine ⟨rfl, (data_boundF l (data_getF l 7 n).1.source).2.1, ?_, rfl⟩
    unfold data_boundF at hb ⊢
    cases hq : cond (!(data_getF l 3 (data_getF l 7 n).1.source).2) true (!(data_getF l 3 (data_getF l 7 n).1.source).1.phase == 3)
    · rw [hq] at hb
      have hf : (data_getF l 4 (data_getF l 3 (data_getF l 7 n).1.source).1.volume).2 = true := by
        cases h : (data_getF l 4 (data_getF l 3 (data_getF l 7 n).1.source).1.volume).2
        · rw [h] at hb; cases hb
        · rfl
      exact (getLF_found 4 _ l hf).1
    · rw [hq] at hb; cases hb
theorem rightLF : ∀ l : List XObj, w14_DataRightLF l = false → ∀ o ∈ l, r03_RightF o = true
  | [], _ => by simp
  | o :: r, h => by
    unfold w14_DataRightLF at h
    cases ho : r03_RightF o with
    | false => rw [ho] at h; cases h
    | true =>
      rw [ho] at h
      intro x hx
      rcases List.mem_cons.1 hx with rfl | hx
      · exact ho
      · exact rightLF r h x hx
theorem dataRight (l : List XObj) (v : Int) (n : ByteArray) : w14_DataRightF l v n = true := by
  unfold w14_DataRightF
  rw [live_true]
  generalize w14_fewF l = l
  cases hl : w14_DataRightLF l with
  | true => rfl
  | false =>
    have hr := rightLF l hl
    have h1 : (cond (!((data_ClaimF l v n).act == (1 : Int))) true (r03_RightF (data_ClaimF l v n).obj)) = true := by
      rcases Claim_cases2 l v n with h | ⟨hc, hv, h⟩ | ⟨hc, hv, h⟩
      · have : ((data_ClaimF l v n).act == 1) = false := by simpa using h
        rw [this]; rfl
      · obtain ⟨m1, k1, _⟩ := getLF_found 3 n l hc
        obtain ⟨m2, k2, _⟩ := getLF_found 4 _ l hv
        rw [h]
        exact right_claim (hr _ m1) (hr _ m2) k1 k2
      · obtain ⟨m1, k1, _⟩ := getLF_found 3 n l hc
        obtain ⟨m2, k2, _⟩ := getLF_found 4 _ l hv
        rw [h]
        exact right_volume _ (hr _ m1) (hr _ m2) k1 k2
    have h2 : (cond (!((data_SnapshotF l v n).act == (1 : Int))) true (r03_RightF (data_SnapshotF l v n).obj)) = true := by
      rcases Snapshot_cases l v n with h | ⟨hs, h⟩ | ⟨hs, w, hw, h⟩
      · have : ((data_SnapshotF l v n).act == 1) = false := by simpa using h
        rw [this]; rfl
      · obtain ⟨m1, k1, _⟩ := getLF_found 7 n l hs
        rw [h]
        exact right_erasing _ (hr _ m1) k1
      · obtain ⟨m1, k1, _⟩ := getLF_found 7 n l hs
        rw [h]
        exact right_cutting _ (hr _ m1) (hr _ hw) k1
    rw [h1, h2]
    rfl
end Go.Proofs.YtondcpkhedjajaaDoor
