/- The driver: Fork, in the raw: the walk. -/
import Derived.Test.YtpffbkbadnhmmaaDForkB0
import Derived.StillTailTactics
set_option linter.unusedVariables false
set_option linter.unusedSimpArgs false
set_option maxRecDepth 100000
namespace Go.Proofs.Ytpffbkbadnhmmaa
open Go Go.Eng
open Go.RowKit (Below)
open Go.ChangeMaps (setBlock)
set_option maxHeartbeats 4000000 in
theorem fork_raw (w : World) {rD rR rV rS rP : Nat} {eR eV eS eP : Array MapEntry} {cR cV cS cP : Nat}
  (hD : w.heap[rD]? = some (.cells ⟨[.map (some rR), .map (some rV), .map (some rS), .map (some rP)]⟩ 102 (0, 0)))
  (hR : w.heap[rR]? = some (.map eR cR)) (hV : w.heap[rV]? = some (.map eV cV)) (hS : w.heap[rS]? = some (.map eS cS)) (hP : w.heap[rP]? = some (.map eP cP))
  (M : Mem) (xs : List (ByteArray × XDv)) (hx : repEs M .str .dv xs eV.toList) (hst : MapKept.Stamped eV cV) (hin : ∀ e ∈ eV.toList, ∃ q en cl, spotOf e.val = some q ∧ w.heap[q]? = some (.map en cl)) :
  Calls Try.prog 34 #[.pointer (some ⟨rD, 0, none⟩)] w fun e w' => e = .returned (.pointer (some ⟨w.heap.size + 4, 0, none⟩)) ∧ Below w.heap.size w w' ∧
   w'.heap[w.heap.size]? = some (.map eR cR) ∧ w'.heap[w.heap.size + 2]? = some (.map eS cS) ∧ w'.heap[w.heap.size + 3]? = some (.map eP cP) ∧
   w'.heap[w.heap.size + 4]? = some (.cells ⟨[.map (some w.heap.size), .map (some (w.heap.size + 1)), .map (some (w.heap.size + 2)), .map (some (w.heap.size + 3))]⟩ 102 (0, 0)) ∧
   ∃ g : Nat → Option Nat, w'.heap[w.heap.size + 1]? = some (.map (eV.map (eG g)) cV) ∧
    (∀ e ∈ eV.toList, ∃ q', g e.born = some q' ∧ w.heap.size + 4 < q' ∧ q' < w'.heap.size ∧ ∀ q, spotOf e.val = some q → w'.heap[q']? = w.heap[q]?) ∧ ∀ a b q, g a = some q → g b = some q → a = b := by
 have d0 : w.cell? ⟨rD, 0, none⟩ = some (.map (some rR)) := by simp [World.cell?, hD]
 have d1 : w.cell? ⟨rD, 1, none⟩ = some (.map (some rV)) := by simp [World.cell?, hD]
 have d2 : w.cell? ⟨rD, 2, none⟩ = some (.map (some rS)) := by simp [World.cell?, hD]
 have d3 : w.cell? ⟨rD, 3, none⟩ = some (.map (some rP)) := by simp [World.cell?, hD]
 go_enter Try.func34, Try.ntmps34
 go_wp2
 go_region_held3 (fun w' => w'.cell? ⟨rD, 0, none⟩ = some (.map (some rR)) ∧ w'.cell? ⟨rD, 1, none⟩ = some (.map (some rV)) ∧ w'.cell? ⟨rD, 2, none⟩ = some (.map (some rS)) ∧ w'.cell? ⟨rD, 3, none⟩ = some (.map (some rP)) ∧
   w'.heap[rR]? = some (.map eR cR) ∧ w'.heap[rV]? = some (.map eV cV) ∧ w'.heap[rS]? = some (.map eS cS) ∧ w'.heap[rP]? = some (.map eP cP))
  ((try refine ⟨?_, ?_, ?_, ?_, ?_, ?_, ?_, ?_⟩) <;> (repeat (first | assumption | rw [World.cell?_drew] | refine cell_alloc ?_ _ | refine heap_alloc' ?_ _)))
  (first
    | (go_at_call 66; refine (AnyW.maps_Clone Try.clone66 rR eR cR _ ?_).mono ?_; (simp [*]); rintro e w' ⟨rfl, rfl⟩)
    | (go_at_call 67; refine (AnyW.maps_Clone Try.clone67 rV eV cV _ ?_).mono ?_; (simp [*]); rintro e w' ⟨rfl, rfl⟩)
    | (go_at_call 68; refine (AnyW.maps_Clone Try.clone68 rS eS cS _ ?_).mono ?_; (simp [*]); rintro e w' ⟨rfl, rfl⟩)
    | (go_at_call 69; refine (AnyW.maps_Clone Try.clone69 rP eP cP _ ?_).mono ?_; (simp [*]); rintro e w' ⟨rfl, rfl⟩))
 obtain ⟨W, hW⟩ : ∃ W : World, W = (((((w.alloc (Obj.map eR cR)).alloc (Obj.map eV cV)).alloc (Obj.map eS cS)).alloc (Obj.map eP cP)).alloc
       (Obj.cells #[Value.map (some w.heap.size), Value.map (some (w.heap.size + 1)), Value.map (some (w.heap.size + 1 + 1)), Value.map (some (w.heap.size + 1 + 1 + 1))] 102)).drew := ⟨_, rfl⟩
 rw [← hW]
 obtain ⟨hWs, hWb, b0, b1, b2, b3, b4⟩ := fk_world w _ _ _ _ _ hW
 clear hW
 have c1 : W.cell? ⟨w.heap.size + 1 + 1 + 1 + 1, 1, none⟩ = some (.map (some (w.heap.size + 1))) := by
  show W.cell? ⟨w.heap.size + 4, 1, none⟩ = _
  simp [World.cell?, b4]
 have hrg := run_range_map (P := Try.prog) W 98 _ _ (w.heap.size + 1) eV cV Try.underlying98 b1
 rw [hWs] at hrg
 go_wp2
 go_loopw [] (fun wr => ∃ (g : Nat → Option Nat) (seen : Array Nat) (c : Nat), FkInv w w.heap.size eR eV eS eP cR cV cS cP g seen c wr) (fun wr => fkLeft w.heap.size wr)
 case atStart => exact ⟨_, _, _, FkInv.start hst hWs hWb b0 b1 b2 b3 b4⟩
 case round =>
  obtain ⟨g, seen, c, hI⟩ := hrel
  have hsz := hI.size
  have hnx := run_next_at (P := Try.prog) wr 0 (w.heap.size + 5) (w.heap.size + 1) cV c seen (eV.map (eG g)) cV hI.bI hI.bV (stamped_G g hst).1 hI.hc
  rcases hnx with ⟨h0, hrun⟩ | ⟨e, he, w1, hw1, hrun⟩
  · go_wp2
    go_ret
    refine ⟨rfl, hI.below, hI.bR, hI.bS, hI.bP, hI.bD, g, hI.bV, hI.done h0, hI.hi⟩
  · obtain ⟨heV, hgn, hel, heG⟩ := hI.entry he
    obtain ⟨x, hxm, hk, hv⟩ := rep_of_mem hx e heV
    have hek : e.key = .string x.1 := repV_str hk
    have hev := repV_dv hv
    obtain ⟨q, en, cl, hq, hqw⟩ := hin e heV
    have hqs : x.2.spot = some q := by rw [← spotOf_rep hv]; exact hq
    rw [hqs] at hev
    obtain ⟨w2, hw2⟩ : ∃ w2, w2 = setBlock w1 (w.heap.size + 5) (.mapIter (some (w.heap.size + 1)) cV (seen.push e.born) cV) := ⟨_, rfl⟩
    rw [← hw2] at hrun
    have h1h : w1.heap = wr.heap := by rcases hw1 with rfl | rfl <;> rfl
    have f1 : w2.heap.size = wr.heap.size := by rw [hw2]; simp [setBlock, h1h]
    have f2 : w2.heap[w.heap.size + 5]? = some (.mapIter (some (w.heap.size + 1)) cV (seen.push e.born) cV) := by rw [hw2]; simp [setBlock, h1h, show w.heap.size + 5 < wr.heap.size by omega]
    have f3 : ∀ k, k ≠ w.heap.size + 5 → w2.heap[k]? = wr.heap[k]? := fun k hk => by rw [hw2]; simp only [setBlock, h1h]; exact Array.getElem?_setIfInBounds_ne (Ne.symm hk)
    have f4 : w2.os = wr.os ∧ w2.tape = wr.tape ∧ w2.output = wr.output := by rw [hw2]; rcases hw1 with rfl | rfl <;> exact ⟨rfl, rfl, rfl⟩
    clear hw2 hw1 h1h
    have hen := run_entry_at (P := Try.prog) w2 (w.heap.size + 5) (w.heap.size + 1) cV seen (eV.map (eG g)) cV e f2 ((f3 _ (by omega)).trans hI.bV) heG (stamped_G g hst).2.1
    rw [hek, hev] at hrun hen
    have hqN : q < w.heap.size := (Array.getElem?_eq_some_iff.1 hqw).1
    have hq2 : w2.heap[q]? = some (.map en cl) := ((f3 q (by omega)).trans (hI.below.block q hqN)).trans hqw
    go_wp2_with (first
     | (go_at_call 70; refine (AnyW.maps_Clone Try.clone70 q en cl _ (heap_alloc' hq2 _)).mono ?_; rintro _ _ ⟨rfl, rfl⟩)
     | go_in)
    obtain ⟨W5, hW5⟩ : ∃ W5 : World, W5 = (w2.alloc (Obj.cells #[Value.int IntKind.i64 x.snd.size, Value.string x.snd.zone, Value.int IntKind.u64 x.snd.tag, Value.map (some (wr.heap.size + 1))] 112)).alloc (Obj.map en cl) := ⟨_, rfl⟩
    rw [← hW5]
    have k1 : W5.heap.size = wr.heap.size + 2 := by rw [hW5]; simp [f1]
    have k2 : W5.heap[wr.heap.size]? = some (Obj.cells #[Value.int IntKind.i64 x.snd.size, Value.string x.snd.zone, Value.int IntKind.u64 x.snd.tag, Value.map (some (wr.heap.size + 1))] 112) := by rw [hW5]; exact heap_alloc' (heap_new f1 _) _
    have k3 : W5.heap[wr.heap.size + 1]? = some (.map en cl) := by rw [hW5]; exact heap_new (by simp [f1]) _
    have k4 : ∀ k, k < wr.heap.size → W5.heap[k]? = w2.heap[k]? := fun k hk => by
     rw [hW5, Below.heap_alloc _ _ _ (by simp [f1]; omega), Below.heap_alloc _ _ _ (by omega)]
    have k5 : W5.os = wr.os ∧ W5.tape = wr.tape ∧ W5.output = wr.output := by rw [hW5]; exact f4
    clear hW5
    have m0 : W5.cell? ⟨wr.heap.size, 0, none⟩ = some (.int .i64 x.snd.size) := by simp [World.cell?, k2]
    have m1 : W5.cell? ⟨wr.heap.size, 1, none⟩ = some (.string x.snd.zone) := by simp [World.cell?, k2]
    have m2 : W5.cell? ⟨wr.heap.size, 2, none⟩ = some (.int .u64 x.snd.tag) := by simp [World.cell?, k2]
    have m3 : W5.cell? ⟨wr.heap.size, 3, none⟩ = some (.map (some (wr.heap.size + 1))) := by simp [World.cell?, k2]
    have mD : W5.cell? ⟨w.heap.size + 1 + 1 + 1 + 1, 1, none⟩ = some (.map (some (w.heap.size + 1))) := by
     show W5.cell? ⟨w.heap.size + 4, 1, none⟩ = _
     simp [World.cell?, k4 (w.heap.size + 4) (by omega), f3 (w.heap.size + 4) (by omega), hI.bD]
    refine wp_region_still_tail 6 (by kernel_rfl) (by kernel_rfl) ?_
    generalize hW6 : ({ W5 with drawn := W5.drawn + 1 } : World) = W6
    have hd : W6 = W5.drew := hW6.symm
    have hh : W6.heap = W5.heap := by rw [hd]; rfl
    have n5 : W6.os = wr.os ∧ W6.tape = wr.tape ∧ W6.output = wr.output := by rw [hd]; exact k5
    have n0 : W6.cell? ⟨wr.heap.size, 0, none⟩ = some (.int .i64 x.snd.size) := by rw [hd, World.cell?_drew]; exact m0
    have n1 : W6.cell? ⟨wr.heap.size, 1, none⟩ = some (.string x.snd.zone) := by rw [hd, World.cell?_drew]; exact m1
    have n2 : W6.cell? ⟨wr.heap.size, 2, none⟩ = some (.int .u64 x.snd.tag) := by rw [hd, World.cell?_drew]; exact m2
    have n3 : W6.cell? ⟨wr.heap.size, 3, none⟩ = some (.map (some (wr.heap.size + 1))) := by rw [hd, World.cell?_drew]; exact m3
    have nD : W6.cell? ⟨w.heap.size + 1 + 1 + 1 + 1, 1, none⟩ = some (.map (some (w.heap.size + 1))) := by rw [hd, World.cell?_drew]; exact mD
    clear hW6 hd m0 m1 m2 m3 mD
    simp only [List.take_succ_cons, List.take_zero, List.drop_succ_cons, List.drop_zero]
    repeat still_step
    refine wpStill_nil ?_
    have hV6 : W6.heap[w.heap.size + 1]? = some (.map (eV.map (eG g)) cV) := by rw [hh, k4 _ (by omega), f3 _ (by omega)]; exact hI.bV
    obtain ⟨j, hj, hup⟩ := update_there (P := Try.prog) (M := M) (w := W6) (kt := 9) (et := 112) (ty := 98) hV6 (by rw [Array.toList_map]; exact repEs_G g xs _ hx) (stamped_G g hst) Try.underlying98 (by kernel_rfl) (str_repV x.1) (dv_repV { x.2 with spot := some (wr.heap.size + 1) }) heG hek
    rw [modify_G (q := wr.heap.size + 1) hst hj hgn hek (by rw [hev]; rfl)] at hup
    go_wp2
    have hne : ∀ (k : Nat) (o : Obj), k ≠ w.heap.size + 1 → (W5.heap.setIfInBounds (w.heap.size + 1) o)[k]? = W5.heap[k]? := fun k o hk => Array.getElem?_setIfInBounds_ne (Ne.symm hk)
    have hfin := hI.step (e := e) (q := q) (q' := wr.heap.size + 1) (w' := { heap := W5.heap.setIfInBounds (w.heap.size + 1) (Obj.map (Array.map (eG fun b => if b = e.born then some (wr.heap.size + 1) else g b) eV) cV), tape := wr.tape, drawn := W6.drawn, os := wr.os, output := wr.output })
     hst heV hgn hq (by omega) (by simp [k1]) rfl rfl rfl
     (fun k h1 h2 h3 => by show (W5.heap.setIfInBounds _ _)[k]? = _; rw [hne k _ h3, k4 k h1, f3 k h2])
     (by show (W5.heap.setIfInBounds _ _)[_]? = _; rw [hne _ _ (by omega), k4 _ (by omega)]; exact f2)
     (by show (W5.heap.setIfInBounds _ _)[_]? = _; simp [show w.heap.size + 1 < W5.heap.size by omega])
     (by show (W5.heap.setIfInBounds _ _)[_]? = _; rw [hne _ _ (by omega), k3]; exact hqw.symm)
    refine ⟨⟨_, _, _, hfin⟩, ?_⟩
    rw [hfin.left, hI.left]
    exact left_shrinks eV seen e hel
end Go.Proofs.Ytpffbkbadnhmmaa
