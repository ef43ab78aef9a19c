/- Binding: plain laws: a claim, a volume, the live world. -/
import Derived.Test.YtnfmnipckcidlaaDoorDPL1
import Derived.Test.YtnfmnipckcidlaaDoorDLive
set_option linter.unusedVariables false
set_option linter.unusedSimpArgs false
set_option maxRecDepth 100000
namespace Go.Proofs.YtnfmnipckcidlaaDoor
open Go Go.Eng
theorem any3_eq (a : List XObj) (v : XObj) (n : ByteArray) (hv : v = (r12_GetF (r12_UniqF a) 4 n).1) : ∀ l : List XObj, bind_world_any_3_itLF 3 (r12_UniqF a) v l = r12_VolumeLF a n l
  | [] => rfl
  | o :: r => by
    unfold bind_world_any_3_itLF r12_VolumeLF
    rw [any3_eq a v n hv r]
    unfold bind_world_some_6F bind_Volume_1F
    rw [ref_eq, hv]
theorem any45_eq (l : List XObj) (n : ByteArray) : cond (bind_world_any_4F (5 : Int) l n) true (bind_world_any_5F (7 : Int) l n) = r12_VolumeL1F n l := by
  have h : ∀ l' : List XObj, (bind_world_any_4_itLF 5 l n l' || bind_world_any_5_itLF 7 l n l') = r12_VolumeL1F n l' := by
    intro l'
    induction l' with
    | nil => rfl
    | cons o r ih =>
      unfold bind_world_any_4_itLF bind_world_any_5_itLF r12_VolumeL1F
      rw [← ih]
      unfold bind_world_some_7F bind_world_some_8F bind_Volume_2F bind_Volume_3F
      cases decide (o.volume = n) <;> cases o.kind == (5 : Int) <;> cases o.kind == (7 : Int) <;> cases o.phase == (10 : Int) <;> simp
  unfold bind_world_any_4F bind_world_any_4_itF bind_world_any_5F bind_world_any_5_itF
  rw [← h l]
  cases bind_world_any_4_itLF 5 l n l <;> cases bind_world_any_5_itLF 7 l n l <;> rfl
theorem volume_eq (l : List XObj) (c : XObj) : r12_volumeF l c = ((r12_volumeLF c l false default).2, (r12_volumeLF c l false default).1) := rfl
theorem Claim_eq (l : List XObj) (v : Int) (n : ByteArray) : bind_ClaimF l v n = r12_ClaimF l v n := by
  unfold bind_ClaimF r12_ClaimF
  rw [of_eq]
  simp only [itLF_eq, any_eq, wait_eq, get_eq, handle_eq, volume_eq]
  unfold bind_world_giveF bind_world_createF
  simp only [get_eq, handle_eq]
  unfold bind_writeF r12_WriteF bind_removeF r12_RemoveF bind_askF r12_AskF
  generalize r12_GetF (r12_UniqF l) 3 n = g
  obtain ⟨c, b⟩ := g
  dsimp only
  generalize r12_pendingF (r12_UniqF l) v c = p
  generalize r12_usedF (r12_UniqF l) c = u
  generalize r12_volumeLF c (r12_UniqF l) false default = vv
  obtain ⟨vb, vo⟩ := vv
  dsimp only
  generalize decide (r12_HandleF c = (⟨#[]⟩ : ByteArray)) = h
  generalize (c.phase == (3 : Int)) = p3
  generalize (c.phase == (2 : Int)) = p2
  generalize (c.phase == (1 : Int)) = p1
  generalize c.deleting = d
  generalize (c.num == (0 : Int)) = n0
  generalize hs : decide (c.source = (⟨#[]⟩ : ByteArray)) = s1
  cases b <;> cases h <;> try rfl
  cases p3
  · cases vb <;> cases d <;> cases n0 <;> cases p2 <;> cases p1 <;> cases s1 <;> rfl
  · cases d <;> cases u <;> rfl
theorem Volume_eq (l : List XObj) (v : Int) (n : ByteArray) : bind_VolumeF l v n = r12_VolumeF l v n := by
  unfold bind_VolumeF r12_VolumeF
  rw [of_eq, any45_eq]
  simp only [get_eq]
  unfold bind_world_any_3F bind_world_any_3_itF
  rw [any3_eq l _ n rfl]
  unfold bind_writeF r12_WriteF bind_askF r12_AskF
  generalize r12_VolumeLF l n (r12_UniqF l) = u3
  generalize r12_VolumeL1F n (r12_UniqF l) = u1
  generalize r12_GetF (r12_UniqF l) 4 n = g
  obtain ⟨c, b⟩ := g
  dsimp only
  by_cases h4 : c.phase = 4
  · rw [h4]
    generalize c.deleting = d
    generalize c.keep = k
    cases b <;> cases d <;> cases k <;> rfl
  · have : (c.phase == (4 : Int)) = false := by simpa using h4
    rw [this]
    generalize (c.phase == (3 : Int)) = p3
    generalize (c.phase == (6 : Int)) = p6
    generalize c.keep = k
    cases b <;> cases p3 <;> cases p6 <;> cases u3 <;> cases u1 <;> cases k <;> rfl
end Go.Proofs.YtnfmnipckcidlaaDoor
