/- Attachments: copy of elements of any size. -/
import Derived.Test.YtbcnehpndoghcaaEB
import Derived.Laws.IdiomCopy
set_option linter.unusedVariables false
set_option linter.unusedSimpArgs false
namespace Go.Eng
open Go Go.RowKit
variable {P : Program}
/-- All is read before anything is written. -/
theorem run_copy_put (w : World) (dT sT ty elem : TypeId) (r o dLen dCap : Nat) (a : Addr) (sLen sCap es : Nat) (cs zs : List Value) (t : TypeId)
    (hu : P.underlying dT = some (.slice elem)) (hs : (P.info? elem).map (·.size) = some es) (hn : cs.length = Nat.min sLen dLen * es)
    (hsrc : ∀ j v, cs[j]? = some v → w.cell? (a.add j) = some v) (hz : w.heap[r]? = some (.cells ⟨zs⟩ t (0, 0))) (hfit : o + cs.length ≤ zs.length) (h1 : ∀ v ∈ cs, v.oneCell' = true) :
    (Builtin.copy_ #[dT, sT] ty #[.slice (some ⟨r, o, none⟩) dLen dCap, .slice (some a) sLen sCap]).run P w = .ok (goInt (Nat.min sLen dLen)) (putCells w r (spliceV zs o cs) t) := by
  have hl := run_loadCells_list (P := P) w a cs hsrc
  have hst := run_storeCells (P := P) (r := r) (o := o) cs zs 0 w hz (by simpa using hfit) h1
  simp only [Nat.add_zero] at hst
  cases hq : P.info? elem with
  | none => simp [hq] at hs
  | some i =>
    have hi : i.size = es := by simpa [hq] using hs
    simp [Builtin.copy_, run_underlying hu, Builtin.lenOf, Builtin.firstCells, sizeOf, typeInfo, hq, hi, ← hn, hl, hst]
theorem putCells_put (w : World) (r : Nat) (a b : List Value) (t : TypeId) : putCells (putCells w r a t) r b t = putCells w r b t := by
  simp [putCells]
theorem two_splices (base vs D : List Value) (a : Nat) (hl : a + vs.length + D.length ≤ base.length) (m : Nat) (hm : m < a + vs.length + D.length) :
    (spliceV (spliceV base (a + vs.length) D) a vs)[m]? = ((base.take a) ++ (vs ++ D))[m]? := by
  have h1 : a + vs.length ≤ (spliceV base (a + vs.length) D).length := by rw [spliceV_length _ _ _ hl]; omega
  rw [spliceV_get _ _ _ _ h1, spliceV_get _ _ _ _ hl]
  have ht : (base.take a).length = a := by rw [List.length_take]; omega
  by_cases h2 : a ≤ m
  · rw [List.getElem?_append_right (by omega), ht]
    by_cases h3 : m < a + vs.length
    · rw [if_pos ⟨h2, h3⟩, List.getElem?_append_left (by omega)]
    · rw [if_neg (by omega), if_pos ⟨by omega, hm⟩, List.getElem?_append_right (by omega)]
      congr 1
      omega
  · rw [if_neg (by omega), if_neg (by omega), List.getElem?_append_left (by omega), List.getElem?_take, if_pos (by omega)]
theorem two_splices' (base vs D : List Value) (a : Nat) (hl : a + vs.length + D.length ≤ base.length) (m : Nat) (hm : m < a + vs.length + D.length) :
    (spliceV (spliceV base a vs) (a + vs.length) D)[m]? = ((base.take a) ++ (vs ++ D))[m]? := by
  have h1 : a + vs.length ≤ base.length := by omega
  rw [spliceV_get _ _ _ _ (by rw [spliceV_length _ _ _ h1]; exact hl), spliceV_get _ _ _ _ h1]
  have ht : (base.take a).length = a := by rw [List.length_take]; omega
  by_cases h2 : a ≤ m
  · rw [List.getElem?_append_right (by omega), ht]
    by_cases h3 : m < a + vs.length
    · rw [if_neg (by omega), if_pos ⟨h2, h3⟩, List.getElem?_append_left (by omega)]
    · rw [if_pos ⟨by omega, hm⟩, List.getElem?_append_right (by omega)]
      congr 1
      omega
  · rw [if_neg (by omega), if_neg (by omega), List.getElem?_append_left (by omega), List.getElem?_take, if_pos (by omega)]
theorem alloc_put (w : World) (a b : List Value) (t : TypeId) : putCells (w.alloc (.cells ⟨a⟩ t)) w.heap.size b t = w.alloc (.cells ⟨b⟩ t) := by
  unfold putCells World.alloc
  congr 1
  apply Array.ext_getElem?
  intro k
  rw [Array.getElem?_setIfInBounds, Array.getElem?_push, Array.getElem?_push, Array.size_push]
  by_cases h : w.heap.size = k
  · subst h; simp
  · rw [if_neg h, if_neg (fun e => h e.symm), if_neg (fun e => h e.symm)]
theorem take_get {va vs : List Value} {n j : Nat} {v : Value} (h : va.take n = vs) (hj : vs[j]? = some v) : va[j]? = some v := by
  rw [← h, List.getElem?_take] at hj
  split at hj
  · exact hj
  · cases hj
end Go.Eng
