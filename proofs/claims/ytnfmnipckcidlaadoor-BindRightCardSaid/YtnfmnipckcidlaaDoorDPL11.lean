/- Binding: by hand: what is written is fine. -/
import Derived.Test.YtnfmnipckcidlaaDoorDPL10
set_option linter.unusedVariables false
set_option linter.unusedSimpArgs false
set_option maxRecDepth 100000
namespace Go.Proofs.YtnfmnipckcidlaaDoor
open Go Go.Eng
def FineA (x : XAct) : Prop := x.obj.Fine
theorem FineA.cond {b : Bool} {x y : XAct} (hx : FineA x) (hy : FineA y) : FineA (cond b x y) := by
  cases b
  · exact hy
  · exact hx
theorem finea_default : FineA default := fine_default
theorem finea_ask (c : XCall) : FineA (r12_AskF c) := fine_default
theorem finea_write {o : XObj} (h : o.Fine) : FineA (r12_WriteF o) := h
theorem finea_remove {o : XObj} (h : o.Fine) : FineA (r12_RemoveF o) := h
theorem volume_fine (l : List XObj) (c : XObj) (h : ∀ o ∈ l, o.Fine) : (r12_volumeF l c).1.Fine := by
  have : ∀ (l' : List XObj) (b : Bool) (v : XObj), v.Fine → (∀ o ∈ l', o.Fine) → (r12_volumeLF c l' b v).2.Fine := by
    intro l'
    induction l' with
    | nil => intro b v hv _; exact hv
    | cons o r ih =>
      intro b v hv hl
      unfold r12_volumeLF
      cases cond (o.kind == (4 : Int)) (decide (o.claim = r12_RefF c)) false with
      | false => exact ih b v hv (fun p hp => hl p (List.mem_cons_of_mem _ hp))
      | true =>
        cases cond (!b) true (strLess o.name v.name) with
        | false => exact ih b v hv (fun p hp => hl p (List.mem_cons_of_mem _ hp))
        | true => exact ih true o (hl o List.mem_cons_self) (fun p hp => hl p (List.mem_cons_of_mem _ hp))
  exact this l false default fine_default h
theorem best_fine (l : List XObj) (c : XObj) (h : ∀ o ∈ l, o.Fine) : (r12_BestF l c).2 = true → (r12_BestF l c).1.Fine := fun hb => by
  rcases (best_law l c (r12_UniqF l) false default).2.2 hb with ⟨h, _⟩ | ⟨o, ho, _, h2⟩
  · cases h
  · show (r12_BestLF l c (r12_UniqF l) false default).2.Fine
    rw [h2]; exact r12_Uniq_fine l h o ho
theorem zone_fine {c : XObj} (hc : c.Fine) {z : ByteArray} (hz : z.size ≤ 140737488351232) (p q : Int) : ({ c with zone := z, phase := p, num := q } : XObj).Fine := ⟨hc.1, hc.2.1, hc.2.2.1, hc.2.2.2.1, hz, hc.2.2.2.2.2⟩
theorem pending_fine (l : List XObj) (v : Int) (c : XObj) (h : ∀ o ∈ l, o.Fine) (hc : c.Fine) : FineA (r12_pendingF l v c) := by
  unfold r12_pendingF
  have hz : ∀ k n, FineA (r12_WriteF ({ c with zone := ((r12_GetF l k n).1).zone, phase := (2 : Int), num := (IntKind.u64.wrap (v + (1 : Int))) } : XObj)) := fun k n => finea_write (zone_fine hc (r12_Get_fine l k n h).2.2.2.2.1 _ _)
  cases hb : (r12_BestF l c).2 with
  | true =>
    have hf := best_fine l c h hb
    exact finea_write ⟨hf.1, hf.2.1, hf.2.2.1, hf.2.2.2.1, hf.2.2.2.2.1, hf.2.2.2.2.2.1, ref_size _, hf.2.2.2.2.2.2.2.1, hf.2.2.2.2.2.2.2.2⟩
  | false =>
    rw [cond_false]
    exact FineA.cond finea_default (FineA.cond (FineA.cond finea_default (FineA.cond (FineA.cond finea_default (hz _ _)) (hz _ _))) (FineA.cond finea_default (FineA.cond (FineA.cond finea_default (hz _ _)) (hz _ _))))
theorem claim_fine (l : List XObj) (v : Int) (n : ByteArray) (h : ∀ o ∈ l, o.Fine) : (bind_ClaimF l v n).obj.Fine := by
  rw [Claim_eq]
  show FineA _
  have hu := r12_Uniq_fine l h
  have hc := r12_Get_fine (r12_UniqF l) 3 n hu
  have hv := volume_fine (r12_UniqF l) (r12_GetF (r12_UniqF l) 3 n).1 hu
  have hp := pending_fine (r12_UniqF l) v (r12_GetF (r12_UniqF l) 3 n).1 hu hc
  unfold r12_ClaimF
  refine FineA.cond finea_default (FineA.cond (FineA.cond (finea_remove hc) finea_default) (FineA.cond ?_ (FineA.cond (FineA.cond (finea_remove hc) (FineA.cond ?_ (finea_ask _))) (FineA.cond (FineA.cond (FineA.cond finea_default (finea_ask _)) (finea_ask _)) (FineA.cond finea_default hp)))))
  · exact finea_write ⟨hc.1, hc.2.1, hc.2.2.1, hc.2.2.2.1, hv.2.2.2.2.1, hc.2.2.2.2.2.1, hc.2.2.2.2.2.2.1, hv.1, hc.2.2.2.2.2.2.2.2⟩
  · exact finea_write hc
theorem vol_fine (l : List XObj) (v : Int) (n : ByteArray) (h : ∀ o ∈ l, o.Fine) : (bind_VolumeF l v n).obj.Fine := by
  rw [Volume_eq]
  show FineA _
  have hu := r12_Uniq_fine l h
  have hc := r12_Get_fine (r12_UniqF l) 4 n hu
  unfold r12_VolumeF
  exact FineA.cond finea_default (FineA.cond (FineA.cond finea_default (finea_write hc)) (FineA.cond (FineA.cond finea_default (FineA.cond (finea_write hc) (finea_write hc))) (FineA.cond (FineA.cond finea_default (finea_ask _)) finea_default)))
theorem default4_fine {x : XObj} (hk : x.kind = 4) (h : x.Fine) : (object_DefaultF x).Fine := by
  obtain ⟨k, nm, ve, bo, de, ho, cl, sz, go, mo, ke, wa, zo, nd, cm, vo, so, ph, nu, tg⟩ := x
  dsimp only at hk
  subst hk
  unfold object_DefaultF
  dsimp only
  cases ph == (0 : Int) <;> cases mo == (0 : Int) <;> cases go == (0 : Int) <;> exact h
theorem after_fine (l : List XObj) (v k : Int) (n : ByteArray) (a3 : XCall) (a4 : XRes) (h : ∀ o ∈ l, o.Fine) (ht : a3.target.size ≤ 140737488351232) (hz : a4.zone.size ≤ 140737488351232) : (bind_AfterF l v ⟨k, n⟩ a3 a4).obj.Fine := by
  show FineA _
  have hu := r12_Uniq_fine l h
  have hc := r12_Get_fine (r12_UniqF l) k n hu
  unfold bind_AfterF
  rw [of_eq]
  simp only [wr_eq, rm_eq, get_eq]
  generalize (r12_GetF (r12_UniqF l) k n).1 = c at *
  have hm : ∀ b w : Bool, FineA (cond (a4.err == (9 : Int)) (r12_WriteF ({ c with num := (IntKind.u64.wrap (v + (1 : Int))) } : XObj)) (cond (a3.verb == (2 : Int)) (cond (a4.err == (0 : Int)) (r12_RemoveF c) default) (cond (a4.err == (13 : Int)) default (cond (a4.err == (0 : Int))
      (r12_WriteF (object_DefaultF (⟨(4 : Int), a3.target, (0 : Int), (0 : Int), false, false, c.cls, c.size, a4.size, c.mode, b, false, a4.zone, (⟨#[]⟩ : ByteArray), bind_RefF c, (⟨#[]⟩ : ByteArray), (⟨#[]⟩ : ByteArray), (3 : Int), (0 : Int), (0 : Int)⟩ : XObj)))
      (cond w (r12_WriteF ({ c with zone := (⟨#[]⟩ : ByteArray), node := (⟨#[]⟩ : ByteArray), phase := (1 : Int), num := (IntKind.u64.wrap (v + (1 : Int))) } : XObj)) (r12_WriteF ({ c with zone := (⟨#[]⟩ : ByteArray), phase := (1 : Int), num := (IntKind.u64.wrap (v + (1 : Int))) } : XObj))))))) := fun b w =>
    FineA.cond (finea_write hc) (FineA.cond (FineA.cond (finea_remove hc) finea_default) (FineA.cond finea_default (FineA.cond (finea_write (default4_fine rfl (new_fine hc ht hz _ _))) (FineA.cond (finea_write ⟨hc.1, hc.2.1, hc.2.2.1, hc.2.2.2.1, Nat.zero_le _, Nat.zero_le _, hc.2.2.2.2.2.2⟩) (finea_write (zone_fine hc (Nat.zero_le _) _ _))))))
  exact FineA.cond (FineA.cond finea_default (hm _ _)) (FineA.cond (FineA.cond finea_default (hm _ _)) (FineA.cond finea_default (hm _ _)))
end Go.Proofs.YtnfmnipckcidlaaDoor
