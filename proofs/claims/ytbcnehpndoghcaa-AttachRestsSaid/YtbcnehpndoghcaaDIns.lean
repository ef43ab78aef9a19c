/- Attachments: slices.Insert of one element. -/
import Derived.Test.YtbcnehpndoghcaaDIns0
import Derived.Shelf.Spec.SlicesInsertGrow
import Derived.Lib.AppendZerosOnto
import Derived.Test.YtbcnehpndoghcaaProg
set_option linter.unusedVariables false
set_option linter.unusedSimpArgs false
set_option maxRecDepth 100000
namespace Go.Proofs.Ytbcnehpndoghcaa
open Go Go.Eng Go.RowKit Go.Shelf Go.Proofs
set_option maxHeartbeats 4000000
/-- slices.Insert of one element at []Object: there is room, not at the end. -/
theorem Try.insertO_shift (b n c i vb vc : Nat) (zs vs : List Value) (tb tv : TypeId) (w : World) (hi : i < n) (hroom : n + 1 ≤ c) (hc63 : c ≤ 9223372036854775807) (hvb : vb ≠ b)
    (hb : w.heap[b]? = some (.cells ⟨zs⟩ tb (0, 0))) (hzl : zs.length = c * 20) (va : List Value) (hv : w.heap[vb]? = some (.cells ⟨va⟩ tv (0, 0))) (hva : va.take 20 = vs) (hvl : vs.length = 20)
    (h1c : ∀ v ∈ zs.take (n * 20), v.oneCell' = true) (h1v : ∀ v ∈ vs, v.oneCell' = true) :
    Calls Try.prog 62 #[.slice (some ⟨b, 0, none⟩) n c, .int .i64 i, .slice (some ⟨vb, 0, none⟩) 1 vc] w fun e w' =>
      e = .returned (.slice (some ⟨b, 0, none⟩) (n + 1) c) ∧ ∃ us : List Value, w' = putCells w.drew b us tb ∧ us.length = zs.length ∧ ∀ m, m < (n + 1) * 20 → us[m]? = (zs.take (i * 20) ++ (vs ++ (zs.take (n * 20)).drop (i * 20)))[m]? := by
  have mixed : Try.prog.follows .mixedOrders = true := by kernel_rfl
  have t22 := Try.underlying22; have t3 := Try.underlying3; have t4 := Try.underlying4
  have hsz : (Try.prog.info? 37).map (·.size) = some 20 := by kernel_rfl
  have hz2 : ¬ ((i : Int) = (n : Int)) := by omega
  have hov : ∀ lb cb, (callFunc 68 #[.slice (some ⟨vb, 0, none⟩) 1 vc, .slice (some ⟨b, (i + 1) * 20, none⟩) lb cb]).run Try.prog w = .ok (.value (.bool false)) w := fun lb cb => by
    rw [run_callFunc_extern Try.func68 (by kernel_rfl) (by kernel_rfl) (by kernel_rfl) (e := Extern.SlicesOverlaps.overlaps #[22, 22] #[4]) (by kernel_rfl),
      Lib.run_overlaps_apart w 22 4 37 t22 20 (fun w => by kernel_rfl) ⟨vb, 0, none⟩ ⟨b, (i + 1) * 20, none⟩ 1 vc lb cb hvb tv tb va.length zs.length (by simp [World.shape?, hv]) (by simp [World.shape?, hb]) (by omega) (by simp [World.frozen?, hv]) (by simp [World.frozen?, hv])]
    rfl
  have hw1 : IntKind.i64.wrap ((i : Int) + 1) = (i : Int) + 1 := by rw [IntKind.wrap_i64]; omega
  have hw2 : IntKind.i64.wrap ((n : Int) + 1) = (n : Int) + 1 := by rw [IntKind.wrap_i64]; omega
  have hdl : ((zs.take (n * 20)).drop (i * 20)).length = (n - i) * 20 := by
    rw [List.length_drop, List.length_take, hzl, Nat.min_eq_left (Nat.mul_le_mul_right _ (by omega)), ← Nat.sub_mul]
  have hcp1 : ∀ ty dc sc, (Builtin.copy_ #[22, 22] ty #[.slice (some ⟨b, (i + 1) * 20, none⟩) (n - i) dc, .slice (some ⟨b, i * 20, none⟩) (n + 1 - i) sc]).run Try.prog w.drew = .ok (goInt (Nat.min (n + 1 - i) (n - i))) (putCells w.drew b (spliceV zs ((i + 1) * 20) ((zs.take (n * 20)).drop (i * 20))) tb) := fun ty dc sc =>
    run_copy_put w.drew _ _ ty 37 b ((i + 1) * 20) (n - i) dc ⟨b, i * 20, none⟩ (n + 1 - i) sc 20 _ zs tb t22 hsz (by rw [hdl]; congr 1; simp only [Nat.min_def]; split <;> omega)
      (fun j v hj => by
        rw [Addr.add_lit, cell_of_block (w := w.drew) hb]
        rw [List.getElem?_drop, List.getElem?_take] at hj
        split at hj
        · exact hj
        · cases hj)
      hb (by rw [hdl, ← Nat.add_mul, hzl]; exact Nat.mul_le_mul_right _ (by omega)) (fun v hv => h1c v (List.mem_of_mem_drop hv))
  have hfit : (i + 1) * 20 + ((zs.take (n * 20)).drop (i * 20)).length ≤ zs.length := by rw [hdl, ← Nat.add_mul, hzl]; exact Nat.mul_le_mul_right _ (by omega)
  have hsl := spliceV_length ((i + 1) * 20) zs _ hfit
  have hbl := (Array.getElem?_eq_some_iff.1 hb).1
  generalize hZ : spliceV zs ((i + 1) * 20) ((zs.take (n * 20)).drop (i * 20)) = z1 at *
  obtain ⟨W1, hW1⟩ : ∃ W1, W1 = putCells w.drew b z1 tb := ⟨_, rfl⟩
  have hcp2 : ∀ (W : World), W.heap = W1.heap → ∀ ty dc, (Builtin.copy_ #[22, 22] ty #[.slice (some ⟨b, i * 20, none⟩) (n + 1 - i) dc, .slice (some ⟨vb, 0, none⟩) 1 vc]).run Try.prog W = .ok (goInt (Nat.min 1 (n + 1 - i))) (putCells W b (spliceV z1 (i * 20) vs) tb) := fun W hWh ty dc =>
    run_copy_put W _ _ ty 37 b (i * 20) (n + 1 - i) dc ⟨vb, 0, none⟩ 1 vc 20 vs z1 tb t22 hsz (by rw [hvl]; simp only [Nat.min_def]; split <;> omega)
      (fun j v hj => by
        rw [Addr.add_lit, Nat.zero_add, cell_of_block (w := W) (r := vb) (vs := va) (t := tv) (by rw [hWh, hW1, putCells_ne hvb]; exact hv)]
        exact take_get hva hj)
      (by rw [hWh, hW1]; exact putCells_at hbl) (by rw [hsl, hvl, hzl, ← Nat.succ_mul]; exact Nat.mul_le_mul_right _ (by omega)) h1v
  rw [← hW1] at hcp1
  have hb1 : (0 : Int) ≤ (i : Int) + 1 := by omega
  have hin : i ≤ n := by omega
  have hb2 : ¬ (c = i + 1) := by omega
  have hb3 : (i : Int) ≤ (n : Int) + 1 := by omega
  have hb3' : i ≤ n + 1 := by omega
  have hb4 : ¬ (c = i) := by omega
  have hb0 : (0 : Int) ≤ (i : Int) := by omega
  go_enter Try.func62, Try.ntmps62
  go_wp2_with (simp only [hov])
  go_region_law_o (refine step_copy_runI rfl _ _ 22 22 rfl _ _ (by simp [Act.eval, Act.put]) (by simp [Act.eval, Act.put]) (hcp1 _ _ _) ?_)
  go_wp2_with (at_builtin; refine wpList_copy_runI _ rfl _ _ 22 22 rfl _ _ rfl rfl (hcp2 _ rfl _ _) ?_)
  go_ret
  refine ⟨rfl, _, putCells_put _ _ _ _ _, ?_, ?_⟩
  · rw [spliceV_length _ _ _ (by rw [hsl, hvl, hzl, ← Nat.succ_mul]; exact Nat.mul_le_mul_right _ (by omega)), hsl]
  · intro m hm
    have h1 : (i + 1) * 20 = i * 20 + vs.length := by rw [hvl]; omega
    rw [← hZ, h1]
    exact two_splices zs vs _ _ (by rw [← h1]; exact hfit) m (by rw [hvl, hdl]; omega)
/-- .. at the end. -/
theorem Try.insertO_end (base : Option Addr) (n c vb vc : Nat) (v' : Value) (w w' : World) (hnil : base = none → n = 0 ∧ c = 0) (hnc : n ≤ c) (hc63 : c ≤ 9223372036854775807)
    (hrun : (Builtin.append_ #[22, 22] 22 #[.slice base n c, .slice (some ⟨vb, 0, none⟩) 1 vc]).run Try.prog w = .ok v' w') :
    Calls Try.prog 62 #[.slice base n c, .int .i64 n, .slice (some ⟨vb, 0, none⟩) 1 vc] w fun e w'' => e = .returned v' ∧ w'' = w' := by
  have mixed : Try.prog.follows .mixedOrders = true := by kernel_rfl
  have t22 := Try.underlying22; have t3 := Try.underlying3; have t4 := Try.underlying4
  go_enter Try.func62, Try.ntmps62
  cases base with
  | none =>
    obtain ⟨rfl, rfl⟩ := hnil rfl
    go_wp2_with (at_builtin; refine Lib.wpList_append_run _ rfl _ _ _ _ rfl _ _ rfl rfl _ _ hrun ?_)
    go_ret
    exact ⟨rfl, rfl⟩
  | some a =>
    obtain ⟨ab, ao, asp⟩ := a
    go_wp2_with (at_builtin; refine Lib.wpList_append_run _ rfl _ _ _ _ rfl _ _ rfl rfl _ _ hrun ?_)
    all_goals (go_ret; exact ⟨rfl, rfl⟩)
/-- .. no room, not at the end: a new row. -/
theorem Try.insertO_grow (b n c i vb vc : Nat) (zs vs : List Value) (tb tv : TypeId) (w : World) (hi : i < n) (hnc : n ≤ c) (hroom : c < n + 1) (hbig : (n + 1) * 192 ≤ 140737488355328) (hml : n + 1 ≤ maxLen)
    (hb : w.heap[b]? = some (.cells ⟨zs⟩ tb (0, 0))) (hzl : zs.length = c * 20) (va : List Value) (hv : w.heap[vb]? = some (.cells ⟨va⟩ tv (0, 0))) (hva : va.take 20 = vs) (hvl : vs.length = 20)
    (h1c : ∀ v ∈ zs.take (n * 20), v.oneCell' = true) (h1v : ∀ v ∈ vs, v.oneCell' = true) :
    Calls Try.prog 62 #[.slice (some ⟨b, 0, none⟩) n c, .int .i64 i, .slice (some ⟨vb, 0, none⟩) 1 vc] w fun e w' =>
      ∃ (us : List Value) (nc : Nat), e = .returned (.slice (some ⟨w.heap.size, 0, none⟩) (n + 1) nc) ∧ w' = (w.drew.drew).alloc (.cells ⟨us⟩ 37) ∧ us.length = nc * 20 ∧ n + 1 ≤ nc ∧ nc ≤ maxLen ∧ ∀ m, m < (n + 1) * 20 → us[m]? = (zs.take (i * 20) ++ (vs ++ (zs.take (n * 20)).drop (i * 20)))[m]? := by
  have mixed : Try.prog.follows .mixedOrders = true := by kernel_rfl
  have t22 := Try.underlying22; have t3 := Try.underlying3; have t4 := Try.underlying4
  have hsz : (Try.prog.info? 37).map (·.size) = some 20 := by kernel_rfl
  have hbz : (Try.prog.info? 37).map (·.bytes) = some 192 := by kernel_rfl
  have hzz : ((Try.prog.info? 37).bind (·.zero)).map (·.cells.size) = some 20 := by kernel_rfl
  obtain ⟨i0, hi0⟩ : ∃ x, Try.prog.info? 37 = some x := Option.isSome_iff_exists.1 (by kernel_rfl)
  have hs0 : i0.size = 20 := by rw [hi0] at hsz; simpa using hsz
  have hb0 : i0.bytes = 192 := by rw [hi0] at hbz; simpa using hbz
  obtain ⟨z, hz0, hzc⟩ : ∃ z, i0.zero = some z ∧ z.cells.size = 20 := by
    rw [hi0] at hzz
    cases hq : i0.zero with
    | none => simp [hq] at hzz
    | some z => exact ⟨z, rfl, by simpa [hq] using hzz⟩
  have hz1 : ¬ ((1 : Int) = 0) := by omega
  have hz2 : ¬ ((i : Int) = (n : Int)) := by omega
  have hz3 : (c : Int) < (n : Int) + 1 := by omega
  have hmx : maxLen = 9223372036854775807 := by decide
  have hbl := (Array.getElem?_eq_some_iff.1 hb).1
  have hvl' := (Array.getElem?_eq_some_iff.1 hv).1
  have hkk : (n : Int) + 1 - (i : Int) = ((n + 1 - i : Nat) : Int) := by omega
  have hik : i + (n + 1 - i) = n + 1 := by omega
  have hni : i * 20 ≤ n * 20 := Nat.mul_le_mul_right _ (by omega)
  have hnz : n * 20 ≤ zs.length := by rw [hzl]; exact Nat.mul_le_mul_right _ hnc
  have hold : (Builtin.firstCells i0.size i (.slice (some ⟨b, 0, none⟩) i c)).run Try.prog w.drew = .ok (zs.take (i * 20)).toArray w.drew := by
    rw [hs0]
    exact run_firstCells_some w.drew 20 i ⟨b, 0, none⟩ i c (zs.take (i * 20)) (by rw [List.length_take]; omega) (fun j v hj => by
      rw [Addr.add_lit, Nat.zero_add, cell_of_block (w := w.drew) hb]
      rw [List.getElem?_take] at hj
      split at hj
      · exact hj
      · cases hj)
  have hrz : ∀ ty, (Builtin.append_ #[22, 3] ty #[.slice (some ⟨b, 0, none⟩) i c, .int .i64 ((n : Int) + 1 - (i : Int))]).run Try.prog w =
      .ok (.slice (some ⟨w.heap.size, 0, none⟩) (n + 1) (grownCap w (n + 1) c 37)) (w.drew.alloc (.cells ((zs.take (i * 20)).toArray ++ Builtin.zeroCells z.cells (n + 1 - i) ++ Builtin.zeroCells z.cells (grownCap w (n + 1) c 37 - (n + 1))) 37)) := fun ty => by
    have h := Lib.run_append_grow_zeros w 22 3 ty 37 i0 z .i64 .i64 t22 t3 hi0 hz0 (some ⟨b, 0, none⟩) i c (zs.take (i * 20)) hold (n + 1 - i) (by omega) (by omega) (by omega) (by omega) (by rw [hb0]; omega) (by rw [hb0, hik]; exact growslice_fits hroom hbig)
    rw [hik] at h
    rw [hkk]
    exact h
  have hGn : n + 1 ≤ grownCap w (n + 1) c 37 := grownCap_ge w _ _ _
  have hG63 : grownCap w (n + 1) c 37 ≤ maxLen := grownCap_le_maxLen w (n + 1) c 37 hml
  generalize grownCap w (n + 1) c 37 = G at hrz hGn hG63
  obtain ⟨ROW, hROW⟩ : ∃ ROW : List Value, ROW = ((zs.take (i * 20)).toArray ++ Builtin.zeroCells z.cells (n + 1 - i) ++ Builtin.zeroCells z.cells (G - (n + 1))).toList := ⟨_, rfl⟩
  have hRa : (zs.take (i * 20)).toArray ++ Builtin.zeroCells z.cells (n + 1 - i) ++ Builtin.zeroCells z.cells (G - (n + 1)) = ⟨ROW⟩ := by rw [hROW]
  rw [hRa] at hrz
  have hRl : ROW.length = G * 20 := by
    rw [hROW]
    simp only [Array.toList_append, List.length_append, Array.length_toList, size_zeroCells, hzc, List.length_take, Nat.min_eq_left (Nat.le_trans hni hnz), ← Nat.add_mul]
    congr 1; omega
  have hRt : ROW.take (i * 20) = zs.take (i * 20) := by
    rw [hROW, Array.toList_append, Array.toList_append, List.append_assoc, List.take_left']
    rw [List.length_take, Nat.min_eq_left (Nat.le_trans hni hnz)]
  clear hRa hROW
  have hdl : ((zs.take (n * 20)).drop (i * 20)).length = (n - i) * 20 := by
    rw [List.length_drop, List.length_take, Nat.min_eq_left hnz, ← Nat.sub_mul]
  have hne1 : vb ≠ w.heap.size := by omega
  have hne2 : b ≠ w.heap.size := by omega
  obtain ⟨W1, hW1⟩ : ∃ W1, W1 = w.drew.alloc (.cells ⟨ROW⟩ 37) := ⟨_, rfl⟩
  have hf1 : i * 20 + vs.length ≤ ROW.length := by rw [hRl, hvl, ← Nat.succ_mul]; exact Nat.mul_le_mul_right _ (by omega)
  have hat : W1.heap[w.heap.size]? = some (.cells ⟨ROW⟩ 37 (0, 0)) := by rw [hW1]; exact heap_alloc_new w.drew _
  have hvb : W1.heap[vb]? = some (.cells ⟨va⟩ tv (0, 0)) := by rw [hW1, Below.heap_alloc w.drew _ vb hvl']; exact hv
  have hbb : W1.heap[b]? = some (.cells ⟨zs⟩ tb (0, 0)) := by rw [hW1, Below.heap_alloc w.drew _ b hbl]; exact hb
  have hcpA : ∀ (W : World), W.heap = W1.heap → ∀ ty dc, (Builtin.copy_ #[22, 22] ty #[.slice (some ⟨w.heap.size, i * 20, none⟩) (n + 1 - i) dc, .slice (some ⟨vb, 0, none⟩) 1 vc]).run Try.prog W = .ok (goInt (Nat.min 1 (n + 1 - i))) (putCells W w.heap.size (spliceV ROW (i * 20) vs) 37) := fun W hWh ty dc =>
    run_copy_put W _ _ ty 37 w.heap.size (i * 20) (n + 1 - i) dc ⟨vb, 0, none⟩ 1 vc 20 vs ROW 37 t22 hsz (by rw [hvl]; simp only [Nat.min_def]; split <;> omega)
      (fun j v hj => by rw [Addr.add_lit, Nat.zero_add, cell_of_block (w := W) (r := vb) (vs := va) (t := tv) (by rw [hWh]; exact hvb)]; exact take_get hva hj)
      (by rw [hWh]; exact hat) hf1 h1v
  have hsl := spliceV_length (i * 20) ROW vs hf1
  have hf2 : (i + 1) * 20 + ((zs.take (n * 20)).drop (i * 20)).length ≤ ROW.length := by rw [hdl, ← Nat.add_mul, hRl]; exact Nat.mul_le_mul_right _ (by omega)
  generalize hZ : spliceV ROW (i * 20) vs = z1 at *
  have hwl : w.heap.size < W1.heap.size := by rw [hW1]; simp [World.alloc]
  have hcpB : ∀ (W : World), W.heap = (putCells W1 w.heap.size z1 37).heap → ∀ ty dc sc, (Builtin.copy_ #[22, 22] ty #[.slice (some ⟨w.heap.size, (i + 1) * 20, none⟩) (n - i) dc, .slice (some ⟨b, i * 20, none⟩) (n - i) sc]).run Try.prog W = .ok (goInt (Nat.min (n - i) (n - i))) (putCells W w.heap.size (spliceV z1 ((i + 1) * 20) ((zs.take (n * 20)).drop (i * 20))) 37) := fun W hWh ty dc sc =>
    run_copy_put W _ _ ty 37 w.heap.size ((i + 1) * 20) (n - i) dc ⟨b, i * 20, none⟩ (n - i) sc 20 _ z1 37 t22 hsz (by rw [hdl]; congr 1; simp only [Nat.min_def]; split <;> omega)
      (fun j v hj => by
        rw [Addr.add_lit, cell_of_block (w := W) (r := b) (vs := zs) (t := tb) (by rw [hWh, putCells_ne hne2]; exact hbb)]
        rw [List.getElem?_drop, List.getElem?_take] at hj
        split at hj
        · exact hj
        · cases hj)
      (by rw [hWh]; exact putCells_at hwl) (by rw [hsl]; exact hf2) (fun v hv => h1c v (List.mem_of_mem_drop hv))
  rw [← hW1] at hrz
  have hw1 : IntKind.i64.wrap ((i : Int) + 1) = (i : Int) + 1 := by rw [IntKind.wrap_i64]; omega
  have hw2 : IntKind.i64.wrap ((n : Int) + 1) = (n : Int) + 1 := by rw [IntKind.wrap_i64]; omega
  have hb1 : (0 : Int) ≤ (i : Int) + 1 := by omega
  have hin : i ≤ n := by omega
  have hin' : i ≤ n + 1 := by omega
  have hb3 : (i : Int) ≤ (n : Int) := by omega
  have hGi : ¬ (G = i) := by omega
  have hGim : ¬ (G = i + 1) := by omega
  have hci : ¬ (c = i) := by omega
  have hG63' : G ≤ 9223372036854775807 := by omega
  subst hW1
  have hE1 : ((w.alloc (.cells ⟨ROW⟩ 37)).drew).heap = (w.drew.alloc (.cells ⟨ROW⟩ 37)).heap := rfl
  have hF1 : ((putCells ((w.alloc (.cells ⟨ROW⟩ 37)).drew) w.heap.size z1 37).drew).heap = (putCells (w.drew.alloc (.cells ⟨ROW⟩ 37)) w.heap.size z1 37).heap := rfl
  clear hkk hik hold
  go_enter Try.func62, Try.ntmps62
  go_wp2_with (first
    | (at_builtin; refine Lib.wpList_append_run _ rfl _ _ _ _ rfl _ _ rfl rfl _ _ (hrz _) ?_)
    | (at_builtin; refine wpList_copy_runI _ rfl _ _ 22 22 rfl _ _ rfl rfl (hcpA _ hE1 _ _) ?_))
  go_region_law_o (refine step_copy_runI rfl _ _ 22 22 rfl (.slice (some ⟨w.heap.size, (i + 1) * 20, none⟩) (n - i) (G - (i + 1))) (.slice (some ⟨b, i * 20, none⟩) (n - i) (c - i)) (by simp [Act.eval, Act.put]) (by simp [Act.eval, Act.put]) (hcpB _ hF1 3 (G - (i + 1)) (c - i)) ?_)
  go_wp2
  go_ret
  refine ⟨spliceV z1 ((i + 1) * 20) ((zs.take (n * 20)).drop (i * 20)), G, rfl, ?_, ?_, hGn, hG63, ?_⟩
  · exact (putCells_put (w.drew.drew.alloc (.cells ⟨ROW⟩ 37)) w.heap.size z1 _ 37).trans (alloc_put w.drew.drew ROW _ 37)
  · rw [spliceV_length _ _ _ (by rw [hsl]; exact hf2), hsl, hRl]
  · intro m hm
    have h1 : (i + 1) * 20 = i * 20 + vs.length := by rw [hvl]; omega
    rw [← hZ, h1, ← hRt]
    exact two_splices' ROW vs _ _ (by rw [← h1]; exact hf2) m (by rw [hvl, hdl]; omega)
/-- slices.Insert of one element at []string: there is room, not at the end. -/
theorem Try.insertS_shift (b n c i vb vc : Nat) (zs vs : List Value) (tb tv : TypeId) (w : World) (hi : i < n) (hroom : n + 1 ≤ c) (hc63 : c ≤ 9223372036854775807) (hvb : vb ≠ b)
    (hb : w.heap[b]? = some (.cells ⟨zs⟩ tb (0, 0))) (hzl : zs.length = c) (va : List Value) (hv : w.heap[vb]? = some (.cells ⟨va⟩ tv (0, 0))) (hva : va.take 1 = vs) (hvl : vs.length = 1)
    (h1c : ∀ v ∈ zs.take (n), v.oneCell' = true) (h1v : ∀ v ∈ vs, v.oneCell' = true) :
    Calls Try.prog 59 #[.slice (some ⟨b, 0, none⟩) n c, .int .i64 i, .slice (some ⟨vb, 0, none⟩) 1 vc] w fun e w' =>
      e = .returned (.slice (some ⟨b, 0, none⟩) (n + 1) c) ∧ ∃ us : List Value, w' = putCells w.drew b us tb ∧ us.length = zs.length ∧ ∀ m, m < (n + 1) → us[m]? = (zs.take (i) ++ (vs ++ (zs.take (n)).drop (i)))[m]? := by
  have mixed : Try.prog.follows .mixedOrders = true := by kernel_rfl
  have t26 := Try.underlying26; have t3 := Try.underlying3; have t4 := Try.underlying4; have t9 := Try.underlying9
  have hsz : (Try.prog.info? 9).map (·.size) = some 1 := by kernel_rfl
  have hz2 : ¬ ((i : Int) = (n : Int)) := by omega
  have hov : ∀ lb cb, (callFunc 66 #[.slice (some ⟨vb, 0, none⟩) 1 vc, .slice (some ⟨b, (i + 1), none⟩) lb cb]).run Try.prog w = .ok (.value (.bool false)) w := fun lb cb => by
    rw [run_callFunc_extern Try.func66 (by kernel_rfl) (by kernel_rfl) (by kernel_rfl) (e := Extern.SlicesOverlaps.overlaps #[26, 26] #[4]) (by kernel_rfl),
      Lib.run_overlaps_apart w 26 4 9 t26 1 (fun w => by kernel_rfl) ⟨vb, 0, none⟩ ⟨b, (i + 1), none⟩ 1 vc lb cb hvb tv tb va.length zs.length (by simp [World.shape?, hv]) (by simp [World.shape?, hb]) (by omega) (by simp [World.frozen?, hv]) (by simp [World.frozen?, hv])]
    rfl
  have hw1 : IntKind.i64.wrap ((i : Int) + 1) = (i : Int) + 1 := by rw [IntKind.wrap_i64]; omega
  have hw2 : IntKind.i64.wrap ((n : Int) + 1) = (n : Int) + 1 := by rw [IntKind.wrap_i64]; omega
  have hdl : ((zs.take (n)).drop (i)).length = (n - i) := by
    rw [List.length_drop, List.length_take, hzl, Nat.min_eq_left (by omega)]
  have hcp1 : ∀ ty dc sc, (Builtin.copy_ #[26, 26] ty #[.slice (some ⟨b, (i + 1), none⟩) (n - i) dc, .slice (some ⟨b, i, none⟩) (n + 1 - i) sc]).run Try.prog w.drew = .ok (goInt (Nat.min (n + 1 - i) (n - i))) (putCells w.drew b (spliceV zs ((i + 1)) ((zs.take (n)).drop (i))) tb) := fun ty dc sc =>
    run_copy_put w.drew _ _ ty 9 b ((i + 1)) (n - i) dc ⟨b, i, none⟩ (n + 1 - i) sc 1 _ zs tb t26 hsz (by rw [hdl, Nat.mul_one]; simp only [Nat.min_def]; split <;> omega)
      (fun j v hj => by
        rw [Addr.add_lit, cell_of_block (w := w.drew) hb]
        rw [List.getElem?_drop, List.getElem?_take] at hj
        split at hj
        · exact hj
        · cases hj)
      hb (by rw [hdl, hzl]; omega) (fun v hv => h1c v (List.mem_of_mem_drop hv))
  have hfit : (i + 1) + ((zs.take (n)).drop (i)).length ≤ zs.length := by rw [hdl, hzl]; omega
  have hsl := spliceV_length ((i + 1)) zs _ hfit
  have hbl := (Array.getElem?_eq_some_iff.1 hb).1
  generalize hZ : spliceV zs ((i + 1)) ((zs.take (n)).drop (i)) = z1 at *
  obtain ⟨W1, hW1⟩ : ∃ W1, W1 = putCells w.drew b z1 tb := ⟨_, rfl⟩
  have hcp2 : ∀ (W : World), W.heap = W1.heap → ∀ ty dc, (Builtin.copy_ #[26, 26] ty #[.slice (some ⟨b, i, none⟩) (n + 1 - i) dc, .slice (some ⟨vb, 0, none⟩) 1 vc]).run Try.prog W = .ok (goInt (Nat.min 1 (n + 1 - i))) (putCells W b (spliceV z1 (i) vs) tb) := fun W hWh ty dc =>
    run_copy_put W _ _ ty 9 b (i) (n + 1 - i) dc ⟨vb, 0, none⟩ 1 vc 1 vs z1 tb t26 hsz (by rw [hvl]; simp only [Nat.min_def]; split <;> omega)
      (fun j v hj => by
        rw [Addr.add_lit, Nat.zero_add, cell_of_block (w := W) (r := vb) (vs := va) (t := tv) (by rw [hWh, hW1, putCells_ne hvb]; exact hv)]
        exact take_get hva hj)
      (by rw [hWh, hW1]; exact putCells_at hbl) (by rw [hsl, hvl, hzl]; omega) h1v
  rw [← hW1] at hcp1
  have hb1 : (0 : Int) ≤ (i : Int) + 1 := by omega
  have hin : i ≤ n := by omega
  have hb2 : ¬ (c = i + 1) := by omega
  have hb3 : (i : Int) ≤ (n : Int) + 1 := by omega
  have hb3' : i ≤ n + 1 := by omega
  have hb4 : ¬ (c = i) := by omega
  have hb0 : (0 : Int) ≤ (i : Int) := by omega
  go_enter Try.func59, Try.ntmps59
  go_wp2_with (simp only [hov])
  go_region_law_o (refine step_copy_runI rfl _ _ 26 26 rfl _ _ (by simp [Act.eval, Act.put]) (by simp [Act.eval, Act.put]) (hcp1 _ _ _) ?_)
  go_wp2_with (at_builtin; refine wpList_copy_runI _ rfl _ _ 26 26 rfl _ _ rfl rfl (hcp2 _ rfl _ _) ?_)
  go_ret
  refine ⟨rfl, _, putCells_put _ _ _ _ _, ?_, ?_⟩
  · rw [spliceV_length _ _ _ (by rw [hsl, hvl, hzl]; omega), hsl]
  · intro m hm
    have h1 : (i + 1) = i + vs.length := by rw [hvl]
    rw [← hZ, h1]
    exact two_splices zs vs _ _ (by rw [← h1]; exact hfit) m (by rw [hvl, hdl]; omega)
/-- .. at the end. -/
theorem Try.insertS_end (base : Option Addr) (n c vb vc : Nat) (v' : Value) (w w' : World) (hnil : base = none → n = 0 ∧ c = 0) (hnc : n ≤ c) (hc63 : c ≤ 9223372036854775807)
    (hrun : (Builtin.append_ #[26, 26] 26 #[.slice base n c, .slice (some ⟨vb, 0, none⟩) 1 vc]).run Try.prog w = .ok v' w') :
    Calls Try.prog 59 #[.slice base n c, .int .i64 n, .slice (some ⟨vb, 0, none⟩) 1 vc] w fun e w'' => e = .returned v' ∧ w'' = w' := by
  have mixed : Try.prog.follows .mixedOrders = true := by kernel_rfl
  have t26 := Try.underlying26; have t3 := Try.underlying3; have t4 := Try.underlying4; have t9 := Try.underlying9
  go_enter Try.func59, Try.ntmps59
  cases base with
  | none =>
    obtain ⟨rfl, rfl⟩ := hnil rfl
    go_wp2_with (at_builtin; refine Lib.wpList_append_run _ rfl _ _ _ _ rfl _ _ rfl rfl _ _ hrun ?_)
    go_ret
    exact ⟨rfl, rfl⟩
  | some a =>
    obtain ⟨ab, ao, asp⟩ := a
    go_wp2_with (at_builtin; refine Lib.wpList_append_run _ rfl _ _ _ _ rfl _ _ rfl rfl _ _ hrun ?_)
    all_goals (go_ret; exact ⟨rfl, rfl⟩)
/-- .. no room, not at the end: a new row. -/
theorem Try.insertS_grow (b n c i vb vc : Nat) (zs vs : List Value) (tb tv : TypeId) (w : World) (hi : i < n) (hnc : n ≤ c) (hroom : c < n + 1) (hbig : (n + 1) * 16 ≤ 140737488355328) (hml : n + 1 ≤ maxLen)
    (hb : w.heap[b]? = some (.cells ⟨zs⟩ tb (0, 0))) (hzl : zs.length = c) (va : List Value) (hv : w.heap[vb]? = some (.cells ⟨va⟩ tv (0, 0))) (hva : va.take 1 = vs) (hvl : vs.length = 1)
    (h1c : ∀ v ∈ zs.take (n), v.oneCell' = true) (h1v : ∀ v ∈ vs, v.oneCell' = true) :
    Calls Try.prog 59 #[.slice (some ⟨b, 0, none⟩) n c, .int .i64 i, .slice (some ⟨vb, 0, none⟩) 1 vc] w fun e w' =>
      ∃ (us : List Value) (nc : Nat), e = .returned (.slice (some ⟨w.heap.size, 0, none⟩) (n + 1) nc) ∧ w' = (w.drew.drew).alloc (.cells ⟨us⟩ 9) ∧ us.length = nc ∧ n + 1 ≤ nc ∧ nc ≤ maxLen ∧ ∀ m, m < (n + 1) → us[m]? = (zs.take (i) ++ (vs ++ (zs.take (n)).drop (i)))[m]? := by
  have mixed : Try.prog.follows .mixedOrders = true := by kernel_rfl
  have t26 := Try.underlying26; have t3 := Try.underlying3; have t4 := Try.underlying4; have t9 := Try.underlying9
  have hsz : (Try.prog.info? 9).map (·.size) = some 1 := by kernel_rfl
  have hbz : (Try.prog.info? 9).map (·.bytes) = some 16 := by kernel_rfl
  have hzz : ((Try.prog.info? 9).bind (·.zero)).map (·.cells.size) = some 1 := by kernel_rfl
  obtain ⟨i0, hi0⟩ : ∃ x, Try.prog.info? 9 = some x := Option.isSome_iff_exists.1 (by kernel_rfl)
  have hs0 : i0.size = 1 := by rw [hi0] at hsz; simpa using hsz
  have hb0 : i0.bytes = 16 := by rw [hi0] at hbz; simpa using hbz
  obtain ⟨z, hz0, hzc⟩ : ∃ z, i0.zero = some z ∧ z.cells.size = 1 := by
    rw [hi0] at hzz
    cases hq : i0.zero with
    | none => simp [hq] at hzz
    | some z => exact ⟨z, rfl, by simpa [hq] using hzz⟩
  have hz1 : ¬ ((1 : Int) = 0) := by omega
  have hz2 : ¬ ((i : Int) = (n : Int)) := by omega
  have hz3 : (c : Int) < (n : Int) + 1 := by omega
  have hmx : maxLen = 9223372036854775807 := by decide
  have hbl := (Array.getElem?_eq_some_iff.1 hb).1
  have hvl' := (Array.getElem?_eq_some_iff.1 hv).1
  have hkk : (n : Int) + 1 - (i : Int) = ((n + 1 - i : Nat) : Int) := by omega
  have hik : i + (n + 1 - i) = n + 1 := by omega
  have hni : i ≤ n := by omega
  have hnz : n ≤ zs.length := by rw [hzl]; exact hnc
  have hold : (Builtin.firstCells i0.size i (.slice (some ⟨b, 0, none⟩) i c)).run Try.prog w.drew = .ok (zs.take (i)).toArray w.drew := by
    rw [hs0]
    exact run_firstCells_some w.drew 1 i ⟨b, 0, none⟩ i c (zs.take (i)) (by rw [List.length_take]; omega) (fun j v hj => by
      rw [Addr.add_lit, Nat.zero_add, cell_of_block (w := w.drew) hb]
      rw [List.getElem?_take] at hj
      split at hj
      · exact hj
      · cases hj)
  have hrz : ∀ ty, (Builtin.append_ #[26, 3] ty #[.slice (some ⟨b, 0, none⟩) i c, .int .i64 ((n : Int) + 1 - (i : Int))]).run Try.prog w =
      .ok (.slice (some ⟨w.heap.size, 0, none⟩) (n + 1) (grownCap w (n + 1) c 9)) (w.drew.alloc (.cells ((zs.take (i)).toArray ++ Builtin.zeroCells z.cells (n + 1 - i) ++ Builtin.zeroCells z.cells (grownCap w (n + 1) c 9 - (n + 1))) 9)) := fun ty => by
    have h := Lib.run_append_grow_zeros w 26 3 ty 9 i0 z .i64 .i64 t26 t3 hi0 hz0 (some ⟨b, 0, none⟩) i c (zs.take (i)) hold (n + 1 - i) (by omega) (by omega) (by omega) (by omega) (by rw [hb0]; omega) (by rw [hb0, hik]; exact growslice_fits hroom hbig)
    rw [hik] at h
    rw [hkk]
    exact h
  have hGn : n + 1 ≤ grownCap w (n + 1) c 9 := grownCap_ge w _ _ _
  have hG63 : grownCap w (n + 1) c 9 ≤ maxLen := grownCap_le_maxLen w (n + 1) c 9 hml
  generalize grownCap w (n + 1) c 9 = G at hrz hGn hG63
  obtain ⟨ROW, hROW⟩ : ∃ ROW : List Value, ROW = ((zs.take (i)).toArray ++ Builtin.zeroCells z.cells (n + 1 - i) ++ Builtin.zeroCells z.cells (G - (n + 1))).toList := ⟨_, rfl⟩
  have hRa : (zs.take (i)).toArray ++ Builtin.zeroCells z.cells (n + 1 - i) ++ Builtin.zeroCells z.cells (G - (n + 1)) = ⟨ROW⟩ := by rw [hROW]
  rw [hRa] at hrz
  have hRl : ROW.length = G := by
    rw [hROW]
    simp only [Array.toList_append, List.length_append, Array.length_toList, size_zeroCells, hzc, List.length_take, Nat.min_eq_left (Nat.le_trans hni hnz)]
    omega
  have hRt : ROW.take (i) = zs.take (i) := by
    rw [hROW, Array.toList_append, Array.toList_append, List.append_assoc, List.take_left']
    rw [List.length_take, Nat.min_eq_left (Nat.le_trans hni hnz)]
  clear hRa hROW
  have hdl : ((zs.take (n)).drop (i)).length = (n - i) := by
    rw [List.length_drop, List.length_take, Nat.min_eq_left hnz]
  have hne1 : vb ≠ w.heap.size := by omega
  have hne2 : b ≠ w.heap.size := by omega
  obtain ⟨W1, hW1⟩ : ∃ W1, W1 = w.drew.alloc (.cells ⟨ROW⟩ 9) := ⟨_, rfl⟩
  have hf1 : i + vs.length ≤ ROW.length := by rw [hRl, hvl]; omega
  have hat : W1.heap[w.heap.size]? = some (.cells ⟨ROW⟩ 9 (0, 0)) := by rw [hW1]; exact heap_alloc_new w.drew _
  have hvb : W1.heap[vb]? = some (.cells ⟨va⟩ tv (0, 0)) := by rw [hW1, Below.heap_alloc w.drew _ vb hvl']; exact hv
  have hbb : W1.heap[b]? = some (.cells ⟨zs⟩ tb (0, 0)) := by rw [hW1, Below.heap_alloc w.drew _ b hbl]; exact hb
  have hcpA : ∀ (W : World), W.heap = W1.heap → ∀ ty dc, (Builtin.copy_ #[26, 26] ty #[.slice (some ⟨w.heap.size, i, none⟩) (n + 1 - i) dc, .slice (some ⟨vb, 0, none⟩) 1 vc]).run Try.prog W = .ok (goInt (Nat.min 1 (n + 1 - i))) (putCells W w.heap.size (spliceV ROW (i) vs) 9) := fun W hWh ty dc =>
    run_copy_put W _ _ ty 9 w.heap.size (i) (n + 1 - i) dc ⟨vb, 0, none⟩ 1 vc 1 vs ROW 9 t26 hsz (by rw [hvl]; simp only [Nat.min_def]; split <;> omega)
      (fun j v hj => by rw [Addr.add_lit, Nat.zero_add, cell_of_block (w := W) (r := vb) (vs := va) (t := tv) (by rw [hWh]; exact hvb)]; exact take_get hva hj)
      (by rw [hWh]; exact hat) hf1 h1v
  have hsl := spliceV_length (i) ROW vs hf1
  have hf2 : (i + 1) + ((zs.take (n)).drop (i)).length ≤ ROW.length := by rw [hdl, hRl]; omega
  generalize hZ : spliceV ROW (i) vs = z1 at *
  have hwl : w.heap.size < W1.heap.size := by rw [hW1]; simp [World.alloc]
  have hcpB : ∀ (W : World), W.heap = (putCells W1 w.heap.size z1 9).heap → ∀ ty dc sc, (Builtin.copy_ #[26, 26] ty #[.slice (some ⟨w.heap.size, (i + 1), none⟩) (n - i) dc, .slice (some ⟨b, i, none⟩) (n - i) sc]).run Try.prog W = .ok (goInt (Nat.min (n - i) (n - i))) (putCells W w.heap.size (spliceV z1 ((i + 1)) ((zs.take (n)).drop (i))) 9) := fun W hWh ty dc sc =>
    run_copy_put W _ _ ty 9 w.heap.size ((i + 1)) (n - i) dc ⟨b, i, none⟩ (n - i) sc 1 _ z1 9 t26 hsz (by rw [hdl, Nat.mul_one]; simp only [Nat.min_def]; split <;> omega)
      (fun j v hj => by
        rw [Addr.add_lit, cell_of_block (w := W) (r := b) (vs := zs) (t := tb) (by rw [hWh, putCells_ne hne2]; exact hbb)]
        rw [List.getElem?_drop, List.getElem?_take] at hj
        split at hj
        · exact hj
        · cases hj)
      (by rw [hWh]; exact putCells_at hwl) (by rw [hsl]; exact hf2) (fun v hv => h1c v (List.mem_of_mem_drop hv))
  rw [← hW1] at hrz
  have hw1 : IntKind.i64.wrap ((i : Int) + 1) = (i : Int) + 1 := by rw [IntKind.wrap_i64]; omega
  have hw2 : IntKind.i64.wrap ((n : Int) + 1) = (n : Int) + 1 := by rw [IntKind.wrap_i64]; omega
  have hb1 : (0 : Int) ≤ (i : Int) + 1 := by omega
  have hin : i ≤ n := by omega
  have hin' : i ≤ n + 1 := by omega
  have hb3 : (i : Int) ≤ (n : Int) := by omega
  have hGi : ¬ (G = i) := by omega
  have hGim : ¬ (G = i + 1) := by omega
  have hci : ¬ (c = i) := by omega
  have hG63' : G ≤ 9223372036854775807 := by omega
  subst hW1
  have hE1 : ((w.alloc (.cells ⟨ROW⟩ 9)).drew).heap = (w.drew.alloc (.cells ⟨ROW⟩ 9)).heap := rfl
  have hF1 : ((putCells ((w.alloc (.cells ⟨ROW⟩ 9)).drew) w.heap.size z1 9).drew).heap = (putCells (w.drew.alloc (.cells ⟨ROW⟩ 9)) w.heap.size z1 9).heap := rfl
  clear hkk hik hold
  go_enter Try.func59, Try.ntmps59
  go_wp2_with (first
    | (at_builtin; refine Lib.wpList_append_run _ rfl _ _ _ _ rfl _ _ rfl rfl _ _ (hrz _) ?_)
    | (at_builtin; refine wpList_copy_runI _ rfl _ _ 26 26 rfl _ _ rfl rfl (hcpA _ hE1 _ _) ?_))
  go_region_law_o (refine step_copy_runI rfl _ _ 26 26 rfl (.slice (some ⟨w.heap.size, (i + 1), none⟩) (n - i) (G - (i + 1))) (.slice (some ⟨b, i, none⟩) (n - i) (c - i)) (by simp [Act.eval, Act.put]) (by simp [Act.eval, Act.put]) (hcpB _ hF1 3 (G - (i + 1)) (c - i)) ?_)
  go_wp2
  go_ret
  refine ⟨spliceV z1 ((i + 1)) ((zs.take (n)).drop (i)), G, rfl, ?_, ?_, hGn, hG63, ?_⟩
  · exact (putCells_put (w.drew.drew.alloc (.cells ⟨ROW⟩ 9)) w.heap.size z1 _ 9).trans (alloc_put w.drew.drew ROW _ 9)
  · rw [spliceV_length _ _ _ (by rw [hsl]; exact hf2), hsl, hRl]
  · intro m hm
    have h1 : (i + 1) = i + vs.length := by rw [hvl]
    rw [← hZ, h1, ← hRt]
    exact two_splices' ROW vs _ _ (by rw [← h1]; exact hf2) m (by rw [hvl, hdl]; omega)
end Go.Proofs.Ytbcnehpndoghcaa
