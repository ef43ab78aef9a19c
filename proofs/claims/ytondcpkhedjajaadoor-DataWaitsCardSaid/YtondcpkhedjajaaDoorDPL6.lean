/- Data: plain laws: a snapshot is not dropped while a claim is being made of it. -/
import Derived.Test.YtondcpkhedjajaaDoorDPL3
import Derived.Test.YtondcpkhedjajaaDoorDLawE
set_option linter.unusedVariables false
set_option linter.unusedSimpArgs false
set_option maxRecDepth 100000
namespace Go.Proofs.YtondcpkhedjajaaDoor
open Go Go.Eng
theorem waitsLF : ∀ l : List XObj, w14_DataWaitsLF l = false → (data_getLF 3 ⟨#[122, 122]⟩ l).1 = false
  | [], _ => rfl
  | o :: r, h => by
    unfold w14_DataWaitsLF at h
    unfold data_getLF
    cases hc : (cond ((o.kind) == (3 : Int)) (decide ((o.name) = (⟨#[122, 122]⟩ : ByteArray))) false) with
    | true => rw [hc] at h; cases h
    | false => rw [hc] at h; exact waitsLF r h
theorem waits_snap (l : List XObj) (ver : Int) (n : ByteArray) (z : XObj) (hz : z.kind = 3 ∧ z.name = ⟨#[122, 122]⟩ ∧ z.phase = 2 ∧ z.source = n) (hl : w14_DataWaitsLF l = false) (hs : (data_getF l 7 n).2 = true) (hd : (data_getF l 7 n).1.deleting = true) :
    data_SnapshotF (([] ++ l) ++ [z]) ver n = default := by
  have hg : data_getF (([] ++ l) ++ [z]) 7 n = data_getF l 7 n := by
    have hs' : (data_getLF 7 n l).1 = true := hs
    have he : data_getLF 7 n (l ++ [z]) = data_getLF 7 n l := by rw [data_getLF_append, hs']; rfl
    unfold data_getF
    rw [List.nil_append, he]
  have hr : data_restoredF (([] ++ l) ++ [z]) n = true := by
    rw [restored_iff]
    refine ⟨⟨#[122, 122]⟩, ?_⟩
    rw [List.nil_append, data_getLF_append, waitsLF l hl, cond_false, data_getLF_cons, if_pos ⟨hz.1, hz.2.1⟩]
    exact ⟨rfl, hz.2.2.1, hz.2.2.2⟩
  unfold data_SnapshotF
  rw [hg, hr, hs, hd]
  simp
theorem dataWaits (l : List XObj) (v : Int) (n : ByteArray) : w14_DataWaitsF l v n = true := by
  unfold w14_DataWaitsF
  rw [live_true]
  generalize w14_fewF l = l
  cases hl : w14_DataWaitsLF l with
  | true => rfl
  | false =>
    simp only [r12_Get_eq]
    cases hs : (data_getF l 7 n).2 with
    | false => rfl
    | true =>
      cases hd : (data_getF l 7 n).1.deleting with
      | false => rfl
      | true =>
        rw [waits_snap l v n _ ⟨rfl, rfl, rfl, rfl⟩ hl hs hd]
        rfl
end Go.Proofs.YtondcpkhedjajaaDoor
