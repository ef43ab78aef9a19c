/- The queue, by hand: the one that is taken first, of none or one. -/
import Derived.Test.YtbjifeobhenkfaaDH0
import Derived.Maps.RangeRun
import Derived.WalkKit
import Derived.Tactics2
import Derived.LoopTactic
import Derived.WalkMore
import Derived.RegionTactic
import Derived.ChangeAlike
import Derived.OwnWalk
set_option linter.unusedVariables false
set_option linter.unusedSimpArgs false
set_option maxRecDepth 100000
namespace Go.Proofs.Ytbjifeobhenkfaa
open Go Go.Eng
open Go.RowKit (Below)
open Go.ChangeMaps (setBlock)
def kv (k : XKey) : Value := .agg #[.int .u8 k.kind, .string k.name]
def xv (x : XSn) : Value := .agg #[.int .i64 x.size, .int .u64 x.tag]
def fsLeft (N : Nat) (wr : World) : Nat := match wr.heap[N + 2]? with
 | some (.mapIter _ _ seen _) => 2 - seen.size
 | _ => 0
structure FsInv (w : World) (N rW : Nat) (es : Array MapEntry) (clock : Nat) (b : Bool) (seen : Array Nat) (c : Nat) (k : XKey) (x : XSn) (wr : World) : Prop where
 it : wr.heap[N + 2]? = some (.mapIter (some rW) clock seen c)
 hc : clock ≤ c
 mp : wr.heap[rW]? = some (.map es clock)
 b0 : wr.heap[N]? = some (.cells #[.int .u8 k.kind, .string k.name] 26)
 b1 : wr.heap[N + 1]? = some (.cells #[.int .i64 x.size, .int .u64 x.tag] 74)
 below : Below N w wr
 st : (seen = #[] ∧ b = false ∧ k = default ∧ x = default) ∨ ∃ y, es = #[y] ∧ seen = #[y.born] ∧ b = true ∧ y.key = kv k ∧ y.val = xv x
theorem FsInv.left {w wr : World} {N rW : Nat} {es : Array MapEntry} {clock : Nat} {b : Bool} {seen : Array Nat} {c : Nat} {k : XKey} {x : XSn} (h : FsInv w N rW es clock b seen c k x wr) : fsLeft N wr = 2 - seen.size := by
 unfold fsLeft
 rw [h.it]
theorem heap_alloc' {w : World} {k : Nat} {x : Obj} (h : w.heap[k]? = some x) (o : Obj) : (w.alloc o).heap[k]? = some x := by
 rw [Below.heap_alloc _ _ _ (Array.getElem?_eq_some_iff.1 h).1]; exact h
theorem heap_new {w : World} {n : Nat} (h : w.heap.size = n) (o : Obj) : (w.alloc o).heap[n]? = some o := by rw [← h]; exact heap_alloc_new w o
theorem set_two {w : World} {r : Nat} {a b : Value} {t : TypeId} (h : w.heap[r]? = some (.cells ⟨[a, b]⟩ t (0, 0))) (a' b' : Value) : (w.setCell ⟨r, 0, none⟩ a').setCell ⟨r, 1, none⟩ b' = putCells w r [a', b'] t := by
 have hr := (Array.getElem?_eq_some_iff.1 h).1
 rw [setCell_putCells h]
 show World.setCell (putCells w r [a', b] t) _ _ = _
 rw [setCell_putCells (putCells_at hr), putCells_twice]
 rfl
theorem put_below {w : World} {r N : Nat} (vs : List Value) (t : TypeId) (h : N ≤ r) : Below N w (putCells w r vs t) :=
 ⟨rfl, rfl, rfl, by simp [putCells], fun k hk => putCells_ne (by omega)⟩
theorem res_first {W : World} {tmps : Array Value} {n m : Nat} {a b c d x : Value} (h2 : tmps.getD 2 undef = .pointer (some ⟨n, 0, none⟩)) (h3 : tmps.getD 3 undef = .pointer (some ⟨m, 0, none⟩)) (h4 : tmps.getD 4 undef = x)
  (q0 : W.heap[n]? = some (.cells #[a, b] 26)) (q1 : W.heap[m]? = some (.cells #[c, d] 74)) : (results Try.f30 tmps).run Try.prog W = .ok (.tuple #[.agg #[a, b], .agg #[c, d], x]) W := by
 have hl0 : (loadVar 26 ⟨n, 0, none⟩).run Try.prog W = .ok (.agg #[a, b]) W := run_loadVar_row W n 26 26 _ (0, 0) _ q0 Try.underlying26 rfl (by kernel_rfl)
 have hl1 : (loadVar 74 ⟨m, 0, none⟩).run Try.prog W = .ok (.agg #[c, d]) W := run_loadVar_row W m 74 74 _ (0, 0) _ q1 Try.underlying74 rfl (by kernel_rfl)
 unfold results
 rw [show Try.f30.results = #[.cell 2 26, .cell 3 74, .tmp 4] from rfl]
 simp only [Array.getD_eq_getD_getElem?] at h2 h3 h4
 simp [asAddr, h2, h3, h4, hl0, hl1]
theorem first_raw (w : World) {rQ rW : Nat} {vF vN : Value} {es : Array MapEntry} {clock : Nat}
  (hQ : w.heap[rQ]? = some (.cells ⟨[.map (some rW), vF, vN]⟩ 70 (0, 0))) (hW : w.heap[rW]? = some (.map es clock)) (hst : MapKept.Stamped es clock) (h1 : es.size ≤ 1)
  (hE : ∀ e ∈ es.toList, ∃ (k : XKey) (x : XSn), e.key = kv k ∧ e.val = xv x) :
  Calls Try.prog 30 #[.pointer (some ⟨rQ, 0, none⟩)] w fun e w' => (∃ (k : XKey) (x : XSn) (b : Bool), e = .returned (.tuple #[kv k, xv x, .bool b]) ∧
   ((es = #[] ∧ b = false ∧ k = default ∧ x = default) ∨ ∃ y, es = #[y] ∧ b = true ∧ y.key = kv k ∧ y.val = xv x)) ∧ Below w.heap.size w w' := by
 have d0 : w.cell? ⟨rQ, 0, none⟩ = some (.map (some rW)) := by simp [World.cell?, hQ]
 have hrg := fun (W : World) (h : W.heap[rW]? = some (.map es clock)) => run_range_map (P := Try.prog) W 67 _ _ rW es clock Try.underlying67 h
 have hrW : rW < w.heap.size := (Array.getElem?_eq_some_iff.1 hW).1
 have hrQ : rQ < w.heap.size := (Array.getElem?_eq_some_iff.1 hQ).1
 have hr2 := hrg ((w.alloc (.cells #[.int .u8 0, .string ⟨#[]⟩] 26)).alloc (.cells #[.int .i64 0, .int .u64 0] 74)) (by rw [Below.heap_alloc _ _ _ (by simp; omega), Below.heap_alloc _ _ _ hrW]; exact hW)
 go_enter Try.func30, Try.ntmps30
 go_wp2
 go_step3
 go_wp2
 go_step3
 go_wp2
 go_loopw [4] (fun okv wr => ∃ (b : Bool) (seen : Array Nat) (c : Nat) (k : XKey) (x : XSn), okv = .bool b ∧ FsInv w w.heap.size rW es clock b seen c k x wr) (fun _ wr => fsLeft w.heap.size wr)
 case atStart =>
  refine ⟨false, #[], clock, default, default, rfl, ?_, Nat.le_refl _, ?_, ?_, ?_, ?_, .inl ⟨rfl, rfl, rfl, rfl⟩⟩
  · exact heap_new (by simp) _
  · rw [Below.heap_alloc _ _ _ (by simp; omega), Below.heap_alloc _ _ _ (by simp; omega), Below.heap_alloc _ _ _ hrW]; exact hW
  · rw [Below.heap_alloc _ _ _ (by simp; omega), Below.heap_alloc _ _ _ (by simp)]; exact heap_new rfl _
  · rw [Below.heap_alloc _ _ _ (by simp)]; exact heap_new (by simp) _
  · exact (((Below.refl _ w).alloc (Nat.le_refl _) _).alloc (by simp) _).alloc (by simp; omega) _
 case round =>
  obtain ⟨b, seen, c, k, x, rfl, hI⟩ := hrel
  have hnx := run_next_at (P := Try.prog) wr 0 (w.heap.size + 2) rW clock c seen es clock hI.it hI.mp hst.1 hI.hc
  rcases hnx with ⟨h0, hrun⟩ | ⟨e, he, w1, hw1, hrun⟩
  · go_wp2
    have m0 : wr.cell? ⟨w.heap.size, 0, none⟩ = some (.int .u8 k.kind) := by simp [World.cell?, hI.b0]
    have m1 : wr.cell? ⟨w.heap.size, 1, none⟩ = some (.string k.name) := by simp [World.cell?, hI.b0]
    have m2 : wr.cell? ⟨w.heap.size + 1, 0, none⟩ = some (.int .i64 x.size) := by simp [World.cell?, hI.b1]
    have m3 : wr.cell? ⟨w.heap.size + 1, 1, none⟩ = some (.int .u64 x.tag) := by simp [World.cell?, hI.b1]
    have z0 : wr.frozen? ⟨w.heap.size, 0, none⟩ = false := by simp [World.frozen?, hI.b0]
    have z1 : wr.frozen? ⟨w.heap.size, 1, none⟩ = false := by simp [World.frozen?, hI.b0]
    have z2 : wr.frozen? ⟨w.heap.size + 1, 0, none⟩ = false := by simp [World.frozen?, hI.b1]
    have z3 : wr.frozen? ⟨w.heap.size + 1, 1, none⟩ = false := by simp [World.frozen?, hI.b1]
    go_region
    rw [set_two hI.b0, set_two (by rw [putCells_ne (by omega)]; exact hI.b1)]
    generalize hW : World.drew _ = W
    have s0 : w.heap.size < wr.heap.size := (Array.getElem?_eq_some_iff.1 hI.b0).1
    have s1 : w.heap.size + 1 < wr.heap.size := (Array.getElem?_eq_some_iff.1 hI.b1).1
    have q0 : W.heap[w.heap.size]? = some (.cells #[.int .u8 k.kind, .string k.name] 26) := by rw [← hW]; exact (putCells_ne (by omega)).trans (putCells_at s0)
    have q1 : W.heap[w.heap.size + 1]? = some (.cells #[.int .i64 x.size, .int .u64 x.tag] 74) := by rw [← hW]; exact putCells_at (by rw [putCells_size]; exact s1)
    have q2 : Below w.heap.size w W := by rw [← hW]; exact ((hI.below.trans (put_below _ _ (Nat.le_refl _))).trans (put_below _ _ (by omega))).drew
    clear hW
    have m0 : W.cell? ⟨w.heap.size, 0, none⟩ = some (.int .u8 k.kind) := by simp [World.cell?, q0]
    have m1 : W.cell? ⟨w.heap.size, 1, none⟩ = some (.string k.name) := by simp [World.cell?, q0]
    have m2 : W.cell? ⟨w.heap.size + 1, 0, none⟩ = some (.int .i64 x.size) := by simp [World.cell?, q1]
    have m3 : W.cell? ⟨w.heap.size + 1, 1, none⟩ = some (.int .u64 x.tag) := by simp [World.cell?, q1]
    refine ‹∀ (a : Act) (w : World), Code.wp Try.prog Code.ret (Exit.noGoto _) a w → _› _ _ ?_
    go_wp2
    rw [Exit.noGoto_ret]
    refine bodyPost_ret (res_first (W := W) rfl rfl rfl q0 q1) rfl ⟨⟨k, x, b, rfl, ?_⟩, q2⟩
    rcases hI.st with ⟨g1, g2, g3, g4⟩ | ⟨y, g1, g2, g3, g4, g5⟩
    · refine .inl ⟨?_, g2, g3, g4⟩
      rw [g1] at h0
      exact Array.eq_empty_iff_forall_not_mem.2 (by simpa [leftOf] using h0)
    · exact .inr ⟨y, g1, g3, g4, g5⟩
  · have hmm : e ∈ es.toList ∧ ¬ e.born ∈ seen := by
      unfold leftOf at he
      simpa using he
    have heE := hmm.1
    obtain ⟨k', x', hek, hev⟩ := hE e heE
    have hes : es = #[e] := by
     have hz : es.toList.length ≤ 1 := by simpa using h1
     apply Array.ext'
     match hl : es.toList, hz, heE with
     | [y], _, hy => simp at hy; rw [hy]
    obtain ⟨hsn, hb⟩ : seen = #[] ∧ b = false := by
     rcases hI.st with ⟨g1, g2, _⟩ | ⟨y, g1, g2, _⟩
     · exact ⟨g1, g2⟩
     · rw [hes] at g1
       have : e = y := by simpa using g1
       subst this
       exact absurd (by rw [g2]; simp) hmm.2
    subst hb
    have h1h : w1.heap = wr.heap := by rcases hw1 with rfl | rfl <;> rfl
    obtain ⟨w2, hw2⟩ : ∃ w2, w2 = setBlock w1 (w.heap.size + 2) (.mapIter (some rW) clock (seen.push e.born) clock) := ⟨_, rfl⟩
    rw [← hw2] at hrun
    have f2 : w2.heap[w.heap.size + 2]? = some (.mapIter (some rW) clock (seen.push e.born) clock) := by rw [hw2]; simp [setBlock, h1h, (Array.getElem?_eq_some_iff.1 hI.it).1]
    have f3 : ∀ k, k ≠ w.heap.size + 2 → w2.heap[k]? = wr.heap[k]? := fun k hk => by rw [hw2]; simp only [setBlock, h1h]; exact Array.getElem?_setIfInBounds_ne (Ne.symm hk)
    have hen := run_entry_at (P := Try.prog) w2 (w.heap.size + 2) rW clock seen es clock e f2 ((f3 _ (by omega)).trans hI.mp) heE hst.2.1
    rw [hek, hev] at hrun hen
    simp only [kv, xv] at hrun hen
    have s2 : w.heap.size + 2 < wr.heap.size := (Array.getElem?_eq_some_iff.1 hI.it).1
    have f1 : w2.heap.size = wr.heap.size := by rw [hw2]; simp [setBlock, h1h]
    have f4 : Below w.heap.size wr w2 := by rw [hw2]; rcases hw1 with rfl | rfl <;> exact ⟨rfl, rfl, rfl, by simp [setBlock], fun k hk => by simp only [setBlock]; exact Array.getElem?_setIfInBounds_ne (by omega)⟩
    clear hw2 hw1
    go_wp2
    generalize hW5 : World.alloc (w2.alloc _) _ = W5
    have k1 : W5.heap.size = wr.heap.size + 2 := by rw [← hW5]; simp [f1]
    have k2 : W5.heap[wr.heap.size]? = some (.cells #[.int .u8 k'.kind, .string k'.name] 26) := by rw [← hW5]; exact heap_alloc' (heap_new f1 _) _
    have k3 : W5.heap[wr.heap.size + 1]? = some (.cells #[.int .i64 x'.size, .int .u64 x'.tag] 74) := by rw [← hW5]; exact heap_new (by simp [f1]) _
    have k4 : ∀ k, k < wr.heap.size → W5.heap[k]? = w2.heap[k]? := fun k hk => by rw [← hW5, Below.heap_alloc _ _ _ (by simp [f1]; omega), Below.heap_alloc _ _ _ (by omega)]
    have k5 : Below w.heap.size w2 W5 := by rw [← hW5]; exact ((Below.refl _ w2).alloc (by omega) _).alloc (by simp; omega) _
    clear hW5
    have c0 := ((k4 _ (by omega)).trans (f3 _ (by omega))).trans hI.b0
    have c1 := ((k4 _ (by omega)).trans (f3 _ (by omega))).trans hI.b1
    have c2 := (k4 _ (by omega)).trans f2
    have c3 := ((k4 _ (by omega)).trans (f3 _ (by omega))).trans hI.mp
    have l0 : W5.cell? ⟨wr.heap.size, 0, none⟩ = some (.int .u8 k'.kind) := by simp [World.cell?, k2]
    have l1 : W5.cell? ⟨wr.heap.size, 1, none⟩ = some (.string k'.name) := by simp [World.cell?, k2]
    have l2 : W5.cell? ⟨wr.heap.size + 1, 0, none⟩ = some (.int .i64 x'.size) := by simp [World.cell?, k3]
    have l3 : W5.cell? ⟨wr.heap.size + 1, 1, none⟩ = some (.int .u64 x'.tag) := by simp [World.cell?, k3]
    have m0 : W5.cell? ⟨w.heap.size, 0, none⟩ = some (.int .u8 k.kind) := by simp [World.cell?, c0]
    have m1 : W5.cell? ⟨w.heap.size, 1, none⟩ = some (.string k.name) := by simp [World.cell?, c0]
    have m2 : W5.cell? ⟨w.heap.size + 1, 0, none⟩ = some (.int .i64 x.size) := by simp [World.cell?, c1]
    have m3 : W5.cell? ⟨w.heap.size + 1, 1, none⟩ = some (.int .u64 x.tag) := by simp [World.cell?, c1]
    have z0 : W5.frozen? ⟨w.heap.size, 0, none⟩ = false := by simp [World.frozen?, c0]
    have z1 : W5.frozen? ⟨w.heap.size, 1, none⟩ = false := by simp [World.frozen?, c0]
    have z2 : W5.frozen? ⟨w.heap.size + 1, 0, none⟩ = false := by simp [World.frozen?, c1]
    have z3 : W5.frozen? ⟨w.heap.size + 1, 1, none⟩ = false := by simp [World.frozen?, c1]
    go_region
    rw [set_two c0, set_two (by rw [putCells_ne (by omega)]; exact c1)]
    generalize hW : World.drew _ = W
    have q0 : W.heap[w.heap.size]? = some (.cells #[.int .u8 k'.kind, .string k'.name] 26) := by rw [← hW]; exact (putCells_ne (by omega)).trans (putCells_at (by omega))
    have q1 : W.heap[w.heap.size + 1]? = some (.cells #[.int .i64 x'.size, .int .u64 x'.tag] 74) := by rw [← hW]; exact putCells_at (by rw [putCells_size]; omega)
    have q2 : Below w.heap.size w W := by rw [← hW]; exact (((hI.below.trans (f4.trans k5)).trans (put_below _ _ (Nat.le_refl _))).trans (put_below _ _ (by omega))).drew
    have q3 : W.heap[w.heap.size + 2]? = some (.mapIter (some rW) clock (seen.push e.born) clock) := by rw [← hW]; exact (putCells_ne (by omega)).trans ((putCells_ne (by omega)).trans c2)
    have q4 : W.heap[rW]? = some (.map es clock) := by rw [← hW]; exact (putCells_ne (by omega)).trans ((putCells_ne (by omega)).trans c3)
    clear hW
    have hnew : FsInv w w.heap.size rW es clock true (seen.push e.born) clock k' x' W := ⟨q3, Nat.le_refl _, q4, q0, q1, q2, .inr ⟨e, hes, by rw [hsn]; rfl, rfl, hek, hev⟩⟩
    go_wp2
    refine ⟨⟨true, _, _, _, _, rfl, hnew⟩, ?_⟩
    rw [hnew.left, hI.left, hsn]
    simp
end Go.Proofs.Ytbjifeobhenkfaa
