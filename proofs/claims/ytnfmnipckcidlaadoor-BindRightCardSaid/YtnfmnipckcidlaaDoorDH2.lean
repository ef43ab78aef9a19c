/- Binding: by hand: what is made after a call; what was asked. -/
import Derived.Test.YtnfmnipckcidlaaDoorDPL2
import Derived.Test.YtnfmnipckcidlaaDoorDAsked
set_option linter.unusedVariables false
set_option linter.unusedSimpArgs false
set_option maxRecDepth 100000
namespace Go.Proofs.YtnfmnipckcidlaaDoor
open Go Go.Eng
theorem new_fine {g : XObj} (hg : g.Fine) {t z : ByteArray} (ht : t.size ≤ 140737488351232) (hz : z.size ≤ 140737488351232) (s : Int) (k : Bool) : (⟨4, t, 0, 0, false, false, g.cls, g.size, s, g.mode, k, false, z, ⟨#[]⟩, bind_RefF g, ⟨#[]⟩, ⟨#[]⟩, 3, 0, 0⟩ : XObj).Fine :=
  ⟨ht, Int.le_refl 0, (by decide : (0 : Int) ≤ 18446744073709551615), hg.2.2.2.1, hz, Nat.zero_le _, by show (bind_RefF g).size ≤ _; rw [ref_eq]; exact ref_size g, Nat.zero_le _, Nat.zero_le _⟩
/-- A call's names are short. -/
def Short (x : XAct) : Prop := x.call.target.size ≤ 140737488351232 ∧ x.call.zone.size ≤ 140737488351232
theorem Short.cond {b : Bool} {x y : XAct} (hx : Short x) (hy : Short y) : Short (cond b x y) := by cases b; exact hy; exact hx
theorem short_default : Short default := ⟨Nat.zero_le _, Nat.zero_le _⟩
theorem handle_size (o : XObj) : (r12_HandleF o).size ≤ 140737488351232 := by
  unfold r12_HandleF r12_longF
  generalize (((⟨#[112, 118, 99, 47]⟩ : ByteArray) ++ o.name) ++ (⟨#[35]⟩ : ByteArray)) ++ (fmtU o.born) = x
  by_cases h : (x.size : Int) > 40
  · rw [decide_eq_true h]; exact Nat.zero_le _
  · rw [decide_eq_false h]; show x.size ≤ _; omega
theorem short_write (o : XObj) : Short (r12_WriteF o) := short_default
theorem short_remove (o : XObj) : Short (r12_RemoveF o) := short_default
theorem short_ask {t z : ByteArray} (ht : t.size ≤ 140737488351232) (hz : z.size ≤ 140737488351232) (a b c : Int) (d e : ByteArray) : Short (r12_AskF (⟨a, t, b, c, z, d, e⟩ : XCall)) := ⟨ht, hz⟩
theorem short_pending (l : List XObj) (v : Int) (c : XObj) : Short (r12_pendingF l v c) := by
  unfold r12_pendingF
  repeat (first | (with_reducible refine Short.cond ?_ ?_) | with_reducible exact short_default | with_reducible exact short_write _)
theorem short_claim (l : List XObj) (v : Int) (n : ByteArray) (h : ∀ o ∈ l, o.Fine) : Short (r12_ClaimF l v n) := by
  have hg := r12_Get_fine (r12_UniqF l) 3 n (r12_Uniq_fine l h)
  have hz := hg.2.2.2.2.1
  have h0 : (⟨#[]⟩ : ByteArray).size ≤ 140737488351232 := Nat.zero_le _
  unfold r12_ClaimF
  repeat (first | (with_reducible refine Short.cond ?_ ?_) | with_reducible exact short_default | with_reducible exact short_write _ | with_reducible exact short_remove _ | with_reducible exact short_pending _ _ _ | with_reducible exact short_ask (handle_size _) hz _ _ _ _ _ | with_reducible exact short_ask (handle_size _) h0 _ _ _ _ _)
theorem short_volume (l : List XObj) (v : Int) (n : ByteArray) (h : n.size ≤ 140737488351232) : Short (r12_VolumeF l v n) := by
  unfold r12_VolumeF
  repeat (first | (with_reducible refine Short.cond ?_ ?_) | with_reducible exact short_default | with_reducible exact short_write _ | with_reducible exact short_ask h (Nat.zero_le _) _ _ _ _ _)
theorem asked_short (a0 : List XObj) (a1 : Int) (a2_0 : Int) (a2_1 : ByteArray) (a2_2 : Int) (a2_3 : ByteArray) (a2_4 : Int) (a2_5 : Int) (a2_6 : ByteArray) (a2_7 : ByteArray) (a2_8 : ByteArray) (a2_9 : Bool) (a2_10 : Int) (a2_11 : Int) (a2_12 : ByteArray) (a2_13 : Int) (h : ∀ o ∈ a0, o.Fine) (h1 : a2_1.size ≤ 140737488351232) (h3 : a2_3.size ≤ 140737488351232) (h6 : a2_6.size ≤ 140737488351232) : (w12_askedF a0 a1 a2_0 a2_1 a2_2 a2_3 a2_4 a2_5 a2_6 a2_7 a2_8 a2_9 a2_10 a2_11 a2_12 a2_13).target.size ≤ 140737488351232 ∧ (w12_askedF a0 a1 a2_0 a2_1 a2_2 a2_3 a2_4 a2_5 a2_6 a2_7 a2_8 a2_9 a2_10 a2_11 a2_12 a2_13).zone.size ≤ 140737488351232 := by
  unfold w12_askedF
  cases a2_9
  · exact ⟨h3, h6⟩
  · cases a2_0 == (3 : Int)
    · exact short_volume a0 a1 a2_1 h1
    · exact short_claim a0 a1 a2_1 h
end Go.Proofs.YtnfmnipckcidlaaDoor
