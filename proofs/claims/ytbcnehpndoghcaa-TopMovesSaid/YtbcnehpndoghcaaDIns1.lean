/- Attachments: an element more, in a vector of one's own. -/
import Derived.Test.YtbcnehpndoghcaaEB
import Derived.Test.YtbcnehpndoghcaaDIns0
set_option linter.unusedVariables false
set_option linter.unusedSimpArgs false
namespace Go.Eng
open Go Go.RowKit
variable {B : Nat → Prop} {w0 w : World} {M0 M : Mem} {h hr : List AObj} {ρ : Loc}
/-- c with all of d put in at i. -/
def Coll.ins (c d : Coll) (i : Nat) : Option Coll := if e : d.k = c.k then some ⟨c.k, c.xs.take i ++ ((e ▸ d.xs) ++ c.xs.drop i)⟩ else none
theorem mul_lt_of {q i e j : Nat} (h : q < i) (hj : j < e) : q * e + j < i * e := by
  have := Nat.mul_le_mul_right e (show q + 1 ≤ i from h)
  rw [Nat.succ_mul] at this
  omega
theorem elems_ins {c d c' : Coll} {i : Nat} (hc : c.ins d i = some c') (hi : i ≤ c.len) {zs vs : List Value} (hz : elems M c zs) (hzl : c.len * c.esz ≤ zs.length) (hv : elems M d vs) (hvl : vs.length = d.len * c.esz) :
    elems M c' (zs.take (i * c.esz) ++ (vs ++ (zs.take (c.len * c.esz)).drop (i * c.esz))) ∧ c'.len = c.len + d.len ∧ c'.k = c.k := by
  obtain ⟨k, xs⟩ := c
  obtain ⟨k', ys⟩ := d
  unfold Coll.ins at hc
  split at hc
  case isFalse => cases hc
  rename_i he
  simp only at he
  subst he
  simp only [Option.some.injEq] at hc
  subst hc
  simp only [Coll.len, Coll.esz] at *
  refine ⟨?_, by simp; omega, trivial⟩
  intro q hq j x hj
  have hje : j < k'.esz := Coll.get_some hj
  simp only [Coll.len, List.length_append, List.length_take, List.length_drop] at hq
  simp only [Coll.get, Coll.esz] at hj ⊢
  have hil : i * k'.esz ≤ xs.length * k'.esz := Nat.mul_le_mul_right _ hi
  have ht : (zs.take (i * k'.esz)).length = i * k'.esz := by rw [List.length_take]; omega
  have hx : (xs.take i).length = i := by rw [List.length_take]; omega
  by_cases h1 : q < i
  · have hlt := mul_lt_of h1 hje
    have hg : (xs.take i ++ (ys ++ xs.drop i)).getD q default = xs.getD q default := by
      rw [List.getD_eq_getElem?_getD, List.getD_eq_getElem?_getD, List.getElem?_append_left (by omega), List.getElem?_take, if_pos h1]
    rw [hg] at hj
    obtain ⟨u, k1, k2⟩ := hz q (by simp [Coll.len]; omega) j x hj
    simp only [Coll.esz] at k1
    refine ⟨u, ?_, k2⟩
    rw [List.getElem?_append_left (by omega), List.getElem?_take, if_pos hlt]
    exact k1
  · have hge : i * k'.esz ≤ q * k'.esz := Nat.mul_le_mul_right _ (by omega)
    have hsub : q * k'.esz + j - i * k'.esz = (q - i) * k'.esz + j := by rw [Nat.sub_mul]; omega
    rw [List.getElem?_append_right (by omega), ht, hsub]
    by_cases h2 : q < i + ys.length
    · have hlt := mul_lt_of (show q - i < ys.length by omega) hje
      have hg : (xs.take i ++ (ys ++ xs.drop i)).getD q default = ys.getD (q - i) default := by
        rw [List.getD_eq_getElem?_getD, List.getD_eq_getElem?_getD, List.getElem?_append_right (by omega), hx, List.getElem?_append_left (by omega)]
      rw [hg] at hj
      obtain ⟨u, k1, k2⟩ := hv (q - i) (by simp [Coll.len]; omega) j x hj
      simp only [Coll.esz] at k1
      refine ⟨u, ?_, k2⟩
      rw [List.getElem?_append_left (by omega)]
      exact k1
    · have hge2 : ys.length * k'.esz ≤ (q - i) * k'.esz := Nat.mul_le_mul_right _ (by omega)
      have hg : (xs.take i ++ (ys ++ xs.drop i)).getD q default = xs.getD (q - ys.length) default := by
        rw [List.getD_eq_getElem?_getD, List.getD_eq_getElem?_getD, List.getElem?_append_right (by omega), hx, List.getElem?_append_right (by omega), List.getElem?_drop]
        congr 2
        omega
      rw [hg] at hj
      obtain ⟨u, k1, k2⟩ := hz (q - ys.length) (by simp [Coll.len]; omega) j x hj
      simp only [Coll.esz] at k1
      refine ⟨u, ?_, k2⟩
      have hlt := mul_lt_of (show q - ys.length < xs.length by omega) hje
      have hplace : i * k'.esz + ((q - i) * k'.esz + j - vs.length) = (q - ys.length) * k'.esz + j := by
        rw [hvl, Nat.sub_mul, Nat.sub_mul]
        have h3 : ys.length * k'.esz + i * k'.esz ≤ q * k'.esz := by rw [← Nat.add_mul]; exact Nat.mul_le_mul_right _ (by omega)
        omega
      rw [List.getElem?_append_right (by omega), List.getElem?_drop, hplace, List.getElem?_take, if_pos hlt]
      exact k1
/-- A vector's block has another row now. -/
theorem fin_put (H : SimH B w0 M0 h w ρ M) {id r cap : Nat} {c c' : Coll} {vs us : List Value} {ct : TypeId} (k2 : ρ.own r = some id) (k3 : w.heap[r]? = some (.cells ⟨vs⟩ ct (0, 0)))
    (k9 : ∀ off, M r off = none) (hul : us.length = cap * c'.esz) (hcl : c'.len ≤ cap) (hcm : cap ≤ maxLen) (hev : elems M c' us) {nid : Nat} (hid : ρ nid = none) :
    ∃ ρ', ρ.only ρ' (deadOf (some id) ++ [(nid, .vec false c')]) ∧ SimH B w0 M0 (applyEff h (deadOf (some id) ++ [(nid, .vec false c')])) (putCells w r us ct) ρ' M ∧ rep ρ' M noG (.vec nid) (.slice (some ⟨r, 0, none⟩) c'.len cap) := by
  have Hd := applyEff_dead H (some id)
  have happ : applyEff h (deadOf (some id) ++ [(nid, .vec false c')]) = hset (applyEff h (deadOf (some id))) nid (.vec false c') := by simp [applyEff]
  have hmem : (nid, AObj.vec false c') ∈ deadOf (some id) ++ [(nid, .vec false c')] := by simp
  rw [happ]
  have hrl := (Array.getElem?_eq_some_iff.1 k3).1
  have hnB : ¬ B r := (H.own _ _ k2).1
  have hnew : (putCells w r us ct).heap[r]? = some (.cells ⟨us⟩ ct (0, 0)) := putCells_at hrl
  refine ⟨ρ.put nid (.hdr (.slice (some ⟨r, 0, none⟩) c'.len cap)) r, Loc.only_put hid _ _ hmem, ?_, ?_⟩
  · refine Hd.take nid hid _ _ r (fun i hi => by
      rw [k2] at hi
      injection hi with hi
      subst hi
      exact hget_dead rfl) hnB (by rw [putCells_size]; exact hrl) (fun k hk _ => putCells_ne hk) (putCells_below hnB) (Mem.le_refl _) (fun _ _ _ => rfl) (fun o v hv => by rw [k9 o] at hv; cases hv) ?_
    exact ⟨.slice (some ⟨r, 0, none⟩) c'.len cap, by simp [Loc.put], .inr ⟨r, cap, us, ct, rfl, by simp [Loc.put], hnew, hul, hcl, hcm, hev, fun off _ => k9 off, fun hf => by cases hf⟩⟩
  · simp only [rep]
    exact ⟨⟨_, _, _, rfl⟩, by simp [Loc.put]⟩
/-- .. a new block. -/
theorem fin_new (H : SimH B w0 M0 h w ρ M) {id cap : Nat} {c' : Coll} {us : List Value} {e : TypeId}
    (hul : us.length = cap * c'.esz) (hcl : c'.len ≤ cap) (hcm : cap ≤ maxLen) (hev : elems M c' us) {nid : Nat} (hid : ρ nid = none) :
    ∃ ρ', ρ.only ρ' (deadOf (some id) ++ [(nid, .vec false c')]) ∧ SimH B w0 M0 (applyEff h (deadOf (some id) ++ [(nid, .vec false c')])) (w.alloc (.cells ⟨us⟩ e)) ρ' M ∧ rep ρ' M noG (.vec nid) (.slice (some ⟨w.heap.size, 0, none⟩) c'.len cap) := by
  have Hd := applyEff_dead H (some id)
  have happ : applyEff h (deadOf (some id) ++ [(nid, .vec false c')]) = hset (applyEff h (deadOf (some id))) nid (.vec false c') := by simp [applyEff]
  have hmem : (nid, AObj.vec false c') ∈ deadOf (some id) ++ [(nid, .vec false c')] := by simp
  rw [happ]
  have hfr : ∀ off, M w.heap.size off = none := fun off => Mem.none_new H (Nat.le_refl _) off
  have hnB : ¬ B w.heap.size := fun hb => Nat.lt_irrefl _ (H.size _ hb)
  have hnew : (w.alloc (.cells ⟨us⟩ e)).heap[w.heap.size]? = some (.cells ⟨us⟩ e (0, 0)) := heap_alloc_new w _
  refine ⟨ρ.put nid (.hdr (.slice (some ⟨w.heap.size, 0, none⟩) c'.len cap)) w.heap.size, Loc.only_put hid _ _ hmem, ?_, ?_⟩
  · refine Hd.take nid hid _ _ w.heap.size (fun i hi => absurd (Hd.own _ _ hi).2 (Nat.lt_irrefl _)) hnB (by show w.heap.size < (w.heap.push _).size; rw [Array.size_push]; omega) (fun k _ hk => Below.heap_alloc w _ k hk) ((Keeps.refl _ _).alloc H.size _) (Mem.le_refl _) (fun _ _ _ => rfl) (fun o v hv => by rw [hfr o] at hv; cases hv) ?_
    exact ⟨.slice (some ⟨w.heap.size, 0, none⟩) c'.len cap, by simp [Loc.put], .inr ⟨w.heap.size, cap, us, e, rfl, by simp [Loc.put], hnew, hul, hcl, hcm, hev, fun off _ => hfr off, fun hf => by cases hf⟩⟩
  · simp only [rep]
    exact ⟨⟨_, _, _, rfl⟩, by simp [Loc.put]⟩
end Go.Eng
