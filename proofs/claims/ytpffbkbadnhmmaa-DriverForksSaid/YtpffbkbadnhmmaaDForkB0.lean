/- The driver: Fork, in the raw: what is known in the midst of its loop. -/
import Derived.Test.YtpffbkbadnhmmaaDForkA
import Derived.Test.YtpffbkbadnhmmaaDH1
import Derived.Test.YtpffbkbadnhmmaaDLayClone
import Derived.Deep.RegionHeld3
import Derived.WalkKit
import Derived.Tactics2
import Derived.Maps.RangeWalk
set_option linter.unusedVariables false
set_option linter.unusedSimpArgs false
set_option maxRecDepth 100000
namespace Go.Proofs.Ytpffbkbadnhmmaa
open Go Go.Eng
open Go.RowKit (Below)
open Go.ChangeMaps (setBlock)

theorem inVs_spot {own : Nat → Option Nat} {M : Mem} {w : World} {id r : Nat} : ∀ {es : List (ByteArray × XVn)} {xs : List (ByteArray × XDv)} {ents : List MapEntry}, inVs own M w id r es xs → repEs M .str .dv xs ents →
  ∀ e ∈ ents, ∃ q en cl, spotOf e.val = some q ∧ w.heap[q]? = some (.map en cl)
 | v :: es, x :: xs, e :: ents, h, hr, e', he => by
  simp only [repEs] at hr
  obtain ⟨⟨_, _, _, _, q, en, cl, h5, _, _, h8, _⟩, h10⟩ := h
  rcases List.mem_cons.1 he with rfl | he
  · exact ⟨q, en, cl, by rw [spotOf_rep hr.2.1]; exact h5, h8⟩
  · exact inVs_spot h10 hr.2.2 e' he
 | [], [], [], _, _, _, he => by cases he
 | [], _ :: _, _, h, _, _, _ => h.elim
 | _ :: _, [], _, h, _, _, _ => h.elim
 | [], [], _ :: _, _, hr, _, _ => by simp [repEs] at hr
 | _ :: _, _ :: _, [], _, hr, _, _ => by simp [repEs] at hr

theorem cell_alloc {w : World} {a : Addr} {v : Value} (h : w.cell? a = some v) (o : Obj) : (w.alloc o).cell? a = some v := by
 rw [World.cell?_alloc_lt _ _ _ (World.block_lt_of_cell? w _ h)]
 exact h
theorem heap_alloc' {w : World} {k : Nat} {x : Obj} (h : w.heap[k]? = some x) (o : Obj) : (w.alloc o).heap[k]? = some x := by
 rw [Below.heap_alloc _ _ _ (Array.getElem?_eq_some_iff.1 h).1]
 exact h
theorem heap_new {w : World} {n : Nat} (h : w.heap.size = n) (o : Obj) : (w.alloc o).heap[n]? = some o := by rw [← h]; exact heap_alloc_new w o
theorem fk_world (w : World) (o0 o1 o2 o3 o4 : Obj) {W : World} (h : W = (((((w.alloc o0).alloc o1).alloc o2).alloc o3).alloc o4).drew) :
  W.heap.size = w.heap.size + 5 ∧ Below w.heap.size w W ∧ W.heap[w.heap.size]? = some o0 ∧ W.heap[w.heap.size + 1]? = some o1 ∧ W.heap[w.heap.size + 2]? = some o2 ∧ W.heap[w.heap.size + 3]? = some o3 ∧ W.heap[w.heap.size + 4]? = some o4 := by
 subst h
 refine ⟨by simp, ((((((Below.refl _ w).alloc (Nat.le_refl _) _).alloc (by simp) _).alloc (by simp; omega) _).alloc (by simp; omega) _).alloc (by simp; omega) _).drew, ?_, ?_, ?_, ?_, ?_⟩
 · exact heap_alloc' (heap_alloc' (heap_alloc' (heap_alloc' (heap_new rfl o0) o1) o2) o3) o4
 · exact heap_alloc' (heap_alloc' (heap_alloc' (heap_new (by simp) o1) o2) o3) o4
 · exact heap_alloc' (heap_alloc' (heap_new (by simp) o2) o3) o4
 · exact heap_alloc' (heap_new (by simp) o3) o4
 · exact heap_new (by simp) o4
structure FkInv (w : World) (N : Nat) (eR eV eS eP : Array MapEntry) (cR cV cS cP : Nat) (g : Nat → Option Nat) (seen : Array Nat) (c : Nat) (wr : World) : Prop where
 size : N + 6 ≤ wr.heap.size
 below : Below N w wr
 bR : wr.heap[N]? = some (.map eR cR)
 bV : wr.heap[N + 1]? = some (.map (eV.map (eG g)) cV)
 bS : wr.heap[N + 2]? = some (.map eS cS)
 bP : wr.heap[N + 3]? = some (.map eP cP)
 bD : wr.heap[N + 4]? = some (.cells ⟨[.map (some N), .map (some (N + 1)), .map (some (N + 2)), .map (some (N + 3))]⟩ 102 (0, 0))
 bI : wr.heap[N + 5]? = some (.mapIter (some (N + 1)) cV seen c)
 hc : cV ≤ c
 hs : ∀ e ∈ eV.toList, seen.contains e.born = (g e.born).isSome
 hg : ∀ b q', g b = some q' → N + 5 < q' ∧ q' < wr.heap.size ∧ ∀ e ∈ eV.toList, e.born = b → ∀ q, spotOf e.val = some q → wr.heap[q']? = w.heap[q]?
 hi : ∀ a b q, g a = some q → g b = some q → a = b
def fkLeft (N : Nat) (wr : World) : Nat := match wr.heap[N + 5]?, wr.heap[N + 1]? with
 | some (.mapIter _ _ seen _), some (.map es _) => (leftOf es seen).size
 | _, _ => 0
section
variable {w wr : World} {N : Nat} {eR eV eS eP : Array MapEntry} {cR cV cS cP : Nat} {g : Nat → Option Nat} {seen : Array Nat} {c : Nat}
theorem FkInv.start {W : World} (hst : MapKept.Stamped eV cV) (hs : W.heap.size = w.heap.size + 5) (hb : Below w.heap.size w W) (b0 : W.heap[w.heap.size]? = some (.map eR cR)) (b1 : W.heap[w.heap.size + 1]? = some (.map eV cV)) (b2 : W.heap[w.heap.size + 2]? = some (.map eS cS)) (b3 : W.heap[w.heap.size + 3]? = some (.map eP cP))
  (b4 : W.heap[w.heap.size + 4]? = some (.cells ⟨[.map (some w.heap.size), .map (some (w.heap.size + 1)), .map (some (w.heap.size + 2)), .map (some (w.heap.size + 3))]⟩ 102 (0, 0))) :
  FkInv w w.heap.size eR eV eS eP cR cV cS cP (fun _ => none) #[] cV (W.alloc (.mapIter (some (w.heap.size + 1)) cV #[] cV)) := by
 have he : eV.map (eG fun _ => none) = eV := by
  have : (eG fun _ => none) = id := by funext e; exact eG_none rfl
  rw [this, Array.map_id]
 refine ⟨by simp [hs], hb.alloc (by omega) _, heap_alloc' b0 _, by rw [he]; exact heap_alloc' b1 _, heap_alloc' b2 _, heap_alloc' b3 _, heap_alloc' b4 _, heap_new hs _, Nat.le_refl _, fun e _ => by simp, (fun b q' h => by cases h), (fun a b q h => by cases h)⟩
theorem rep_of_mem {M : Mem} : ∀ {xs : List (ByteArray × XDv)} {es : List MapEntry}, repEs M .str .dv xs es → ∀ e ∈ es, ∃ x ∈ xs, repV M .str x.1 e.key ∧ repV M .dv x.2 e.val
 | x :: xs, e :: es, h, e', he => by
  simp only [repEs] at h
  rcases List.mem_cons.1 he with rfl | he
  · exact ⟨x, List.mem_cons_self, h.1, h.2.1⟩
  · obtain ⟨y, h1, h2⟩ := rep_of_mem h.2.2 e' he
    exact ⟨y, List.mem_cons_of_mem _ h1, h2⟩
 | [], [], _, _, he => by cases he
 | [], _ :: _, h, _, _ => by simp [repEs] at h
 | _ :: _, [], h, _, _ => by simp [repEs] at h
theorem FkInv.left (h : FkInv w N eR eV eS eP cR cV cS cP g seen c wr) : fkLeft N wr = (leftOf eV seen).size := by
 unfold fkLeft
 rw [h.bI, h.bV]
 exact left_G g eV seen
theorem FkInv.entry (h : FkInv w N eR eV eS eP cR cV cS cP g seen c wr) {e : MapEntry} (he : e ∈ (leftOf (eV.map (eG g)) seen).toList) : e ∈ eV.toList ∧ g e.born = none ∧ e ∈ (leftOf eV seen).toList ∧ e ∈ (eV.map (eG g)).toList := by
 obtain ⟨h1, h2⟩ := mem_left he
 have h1' := h1
 rw [Array.toList_map] at h1
 obtain ⟨e0, h3, rfl⟩ := List.mem_map.1 h1
 rw [eG_born] at h2
 have hn : g e0.born = none := by
  have := h.hs e0 h3
  rw [h2] at this
  cases hg : g e0.born with
  | none => rfl
  | some q => rw [hg] at this; cases this
 rw [eG_none hn] at h1' ⊢
 refine ⟨h3, hn, ?_, h1'⟩
 unfold leftOf
 simp only [Array.toList_filter, List.mem_filter]
 exact ⟨h3, by rw [h2]; rfl⟩
theorem FkInv.step (h : FkInv w N eR eV eS eP cR cV cS cP g seen c wr) (hst : MapKept.Stamped eV cV) {e : MapEntry} (he : e ∈ eV.toList) (hn : g e.born = none) {q : Nat} (hq : spotOf e.val = some q) {w' : World} {q' : Nat} (hq' : wr.heap.size ≤ q') (hlt : q' < w'.heap.size)
  (os : w'.os = wr.os) (tape : w'.tape = wr.tape) (output : w'.output = wr.output) (hold : ∀ k, k < wr.heap.size → k ≠ N + 5 → k ≠ N + 1 → w'.heap[k]? = wr.heap[k]?)
  (hI : w'.heap[N + 5]? = some (.mapIter (some (N + 1)) cV (seen.push e.born) cV)) (hV : w'.heap[N + 1]? = some (.map (eV.map (eG fun b => if b = e.born then some q' else g b)) cV)) (hnew : w'.heap[q']? = w.heap[q]?) :
  FkInv w N eR eV eS eP cR cV cS cP (fun b => if b = e.born then some q' else g b) (seen.push e.born) cV w' := by
 have hsz := h.size
 refine ⟨by omega, ⟨os.trans h.below.os, tape.trans h.below.tape, output.trans h.below.output, by have := h.below.size; omega, fun k hk => (hold k (by omega) (by omega) (by omega)).trans (h.below.block k hk)⟩,
  (hold _ (by omega) (by omega) (by omega)).trans h.bR, hV, (hold _ (by omega) (by omega) (by omega)).trans h.bS, (hold _ (by omega) (by omega) (by omega)).trans h.bP, (hold _ (by omega) (by omega) (by omega)).trans h.bD, hI, Nat.le_refl _, ?_, ?_, ?_⟩
 · intro x hx
   by_cases hb : x.born = e.born
   · simp only [if_pos hb, Option.isSome_some, hb]
     simp
   · simp only [if_neg hb]
     rw [← h.hs x hx]
     simp [hb]
 · intro b p hp
   by_cases hb : b = e.born
   · simp only [if_pos hb, Option.some.injEq] at hp
     subst hp
     refine ⟨by omega, hlt, fun x hx hxb q0 hq0 => ?_⟩
     have : x = e := uniq_of_nodup hst.2.1 x hx e he (hxb.trans hb)
     subst this
     rw [hq] at hq0
     injection hq0 with hq0
     subst hq0
     exact hnew
   · simp only [if_neg hb] at hp
     obtain ⟨k1, k2, k3⟩ := h.hg b p hp
     refine ⟨k1, by omega, fun x hx hxb q0 hq0 => ?_⟩
     rw [hold p k2 (by omega) (by omega)]
     exact k3 x hx hxb q0 hq0
 · intro a b p ha hb
   by_cases h1 : a = e.born <;> by_cases h2 : b = e.born
   · rw [h1, h2]
   · simp only [if_pos h1, if_neg h2, Option.some.injEq] at ha hb
     subst ha
     have := (h.hg b _ hb).2.1
     omega
   · simp only [if_neg h1, if_pos h2, Option.some.injEq] at ha hb
     subst hb
     have := (h.hg a _ ha).2.1
     omega
   · simp only [if_neg h1, if_neg h2] at ha hb
     exact h.hi a b p ha hb
theorem FkInv.done (h : FkInv w N eR eV eS eP cR cV cS cP g seen c wr) (h0 : (leftOf (eV.map (eG g)) seen).size = 0) : ∀ e ∈ eV.toList, ∃ q', g e.born = some q' ∧ N + 4 < q' ∧ q' < wr.heap.size ∧ ∀ q, spotOf e.val = some q → wr.heap[q']? = w.heap[q]? := by
 intro e he
 have hall := all_seen eV seen (by rw [← left_G g]; exact h0) e he
 rw [h.hs e he] at hall
 obtain ⟨q', hq'⟩ := Option.isSome_iff_exists.1 hall
 obtain ⟨k1, k2, k3⟩ := h.hg _ _ hq'
 exact ⟨q', hq', by omega, k2, fun q hq => k3 e he rfl q hq⟩
end
end Go.Proofs.Ytpffbkbadnhmmaa
