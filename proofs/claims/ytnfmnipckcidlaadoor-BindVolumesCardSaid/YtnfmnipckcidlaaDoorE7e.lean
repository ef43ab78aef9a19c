/- The engine, part 7e: strings' iterators. -/
import Derived.Test.YtnfmnipckcidlaaDoorE7d
import Derived.Laws.RangeString
set_option linter.unusedVariables false
set_option linter.unusedSimpArgs false
namespace Go.Eng
open Go.RowKit (Below)
variable {P : Program} {B : Nat → Prop} {w0 w : World} {M0 M : Mem} {h : List AObj} {ρ : Loc}

theorem SimH.allocIter (H : SimH B w0 M0 h w ρ M) (id : Nat) (hid : ρ id = none) (s : ByteArray) : SimH B w0 M0 (hset h id (.iter s 0)) (w.iter s 0) (ρ.put id (.blk w.heap.size) w.heap.size) M := by
  refine H.allocO id hid _ _ _ ?_
  exact ⟨w.heap.size, by simp [Loc.put], by simp [Loc.put], (by show (w.heap.push _)[w.heap.size]? = _; simp), fun off => Mem.none_new H (Nat.le_refl _) off⟩
theorem SimH.setIter (H : SimH B w0 M0 h w ρ M) {id : Nat} {s : ByteArray} {pos : Nat} (ho : hget h id = .iter s pos) {r : Nat} (hr : ρ id = some (.blk r)) (p : Nat) :
    SimH B w0 M0 (hset h id (.iter s p)) { w with heap := w.heap.setIfInBounds r (.stringIter s p) } ρ M := by
  have hobj := H.obj id
  rw [ho] at hobj
  obtain ⟨r', h1, h2, h3, h4⟩ := hobj
  rw [hr] at h1
  injection h1 with h1
  injection h1 with h1
  subst h1
  have hrl := (Array.getElem?_eq_some_iff.1 h3).1
  have hne : ∀ k, k ≠ r → (w.heap.setIfInBounds r (.stringIter s p))[k]? = w.heap[k]? := fun k hk => Array.getElem?_setIfInBounds_ne (Ne.symm hk)
  refine H.update id _ (fun _ _ => rfl) (Loc.le_refl _) (Mem.le_refl _) ⟨r, hr, h2, by simp [hrl], h4⟩ ?_ (fun r' i hr' => ⟨(H.own r' i hr').1, by simpa using (H.own r' i hr').2⟩) ?_ (fun _ _ _ => rfl)
    ⟨rfl, rfl, rfl, by simp, fun k hk => hne k fun e => (H.own _ _ h2).1 (e ▸ hk)⟩
  · intro i r' hni hd hr'
    refine ⟨hr', hne r' fun e => hni ?_, fun _ h => h⟩
    subst e
    rw [h2] at hr'
    injection hr' with hr'
    exact hr'.symm
  · intro b o v hv
    have := H.mem b o v hv
    have hb : b ≠ r := fun e => by subst e; rw [h4 o] at hv; cases hv
    rw [← this]
    unfold World.cell?
    simp only [hne b hb]
theorem next_run (H : SimH B w0 M0 h w ρ M) {id : Nat} {s : ByteArray} {pos : Nat} (ho : hget h id = .iter s pos) {v : Value} (hv : rep ρ M noG (.ptr id 0) v) (ty : TypeId) :
    ∃ u w', (Instr.next v true ty).run P w = .ok u w' ∧ rep ρ M noG (.nxt (decide (pos < s.size)) pos (Utf8.decode s pos).1) u ∧ SimH B w0 M0 (hset h id (.iter s (cond (decide (pos < s.size)) (pos + (Utf8.decode s pos).2) pos))) w' ρ M := by
  simp only [rep] at hv
  obtain ⟨r, hr, rfl⟩ := hv
  have hobj := H.obj id
  rw [ho] at hobj
  obtain ⟨r', h1, h2, h3, h4⟩ := hobj
  rw [hr] at h1
  injection h1 with h1
  injection h1 with h1
  subst h1
  have hrl := (Array.getElem?_eq_some_iff.1 h3).1
  by_cases hp : pos < s.size
  · refine ⟨.tuple #[.bool true, .int .i64 pos, .int .i32 (Utf8.decode s pos).1], _, ?_, ?_, SimH.setIter H ho hr _⟩
    · simp only [Instr.next, getObj, setObj, Sem.run_bind, Sem.run, h3, Result.andThen, hp, if_true, decide_true, cond_true]
      simp [goInt, Sem.run, hrl]
    · simp [rep, hp]
  · refine ⟨.tuple #[.bool false], _, ?_, ?_, SimH.setIter H ho hr _⟩
    · simp only [decide_false, hp, cond_false]
      have he : ({ w with heap := w.heap.setIfInBounds r (.stringIter s pos) } : World) = w := by
        have : w.heap.setIfInBounds r (.stringIter s pos) = w.heap := by
          apply Array.ext_getElem?
          intro i
          by_cases hi : i = r
          · subst hi; rw [h3]; simp [hrl]
          · exact Array.getElem?_setIfInBounds_ne (Ne.symm hi)
        rw [this]
      rw [he]
      simp [Instr.next, getObj, Sem.run, h3, hp]
    · simp [rep, hp]
end Go.Eng
