/- Data: numbers as texts: strconv.FormatUint at base 10 (the shelf has FormatInt's parts; FormatUint's own two walks are here). -/
import Derived.Shelf.Strconv.Itoa3
import Derived.Lib.AppendIntMem
import Derived.Test.YtkledlcmhbjadaaGreatDoorEE
import Derived.Test.YtkledlcmhbjadaaGreatDoorProg
set_option linter.unusedVariables false
set_option linter.unusedSimpArgs false
namespace Go.Proofs
open Go.Shelf Go.RowKit Go.Sort Go.Lib
def Tryz.lays283_ren : Go.Shelf.Ren := ⟨fun | 283 => 63 | n => n, fun | 3 => 3 | 9 => 9 | 4 => 4 | n => n, fun | n => n⟩
theorem Tryz.lays283 : Go.Proofs.Lays.n283 Tryz.prog Tryz.lays283_ren := {
 mixed := by kernel_rfl
 f283 := Tryz.func63.trans (congrArg some (by kernel_rfl))
 t3 := Tryz.underlying3
 a3 := Tryz.isAgg3
 z3 := Tryz.sizeOf3
 v3 := Tryz.zeroValue3
 t4 := Tryz.underlying4
 a4 := Tryz.isAgg4
 z4 := Tryz.sizeOf4
 v4 := Tryz.zeroValue4
 t9 := Tryz.underlying9
 a9 := Tryz.isAgg9
 z9 := Tryz.sizeOf9
 v9 := Tryz.zeroValue9 }
def Tryz.laysM284_ren : Go.Shelf.Ren := ⟨fun | 284 => 64 | 129 => 76 | 317 => 75 | 318 => 77 | n => n, fun | 53 => 28 | 3 => 3 | 212 => 147 | 0 => 0 | 4 => 4 | 46 => 151 | 5 => 5 | 9 => 9 | n => n, fun | 17 => 0 | n => n⟩
theorem Tryz.laysM284 : Go.Proofs.LaysM.n284 Tryz.prog Tryz.laysM284_ren := {
 mixed := by kernel_rfl
 f129 := Tryz.func76.trans (congrArg some (by kernel_rfl))
 f284 := Tryz.func64.trans (congrArg some (by kernel_rfl))
 f317 := Tryz.func75.trans (congrArg some (by kernel_rfl))
 f318 := Tryz.func77.trans (congrArg some (by kernel_rfl))
 t0 := Tryz.underlying0
 a0 := Tryz.isAgg0
 z0 := Tryz.sizeOf0
 v0 := Tryz.zeroValue0
 t3 := Tryz.underlying3
 a3 := Tryz.isAgg3
 z3 := Tryz.sizeOf3
 v3 := Tryz.zeroValue3
 t4 := Tryz.underlying4
 a4 := Tryz.isAgg4
 z4 := Tryz.sizeOf4
 v4 := Tryz.zeroValue4
 t5 := Tryz.underlying5
 a5 := Tryz.isAgg5
 z5 := Tryz.sizeOf5
 v5 := Tryz.zeroValue5
 t9 := Tryz.underlying9
 a9 := Tryz.isAgg9
 z9 := Tryz.sizeOf9
 v9 := Tryz.zeroValue9
 t46 := Tryz.underlying151
 a46 := Tryz.isAgg151
 z46 := Tryz.sizeOf151
 v46 := Tryz.zeroValue151
 t53 := Tryz.underlying28
 a53 := Tryz.isAgg28
 z53 := Tryz.sizeOf28
 v53 := Tryz.zeroValue28
 t212 := Tryz.underlying147
 a212 := Tryz.isAgg147
 z212 := Tryz.sizeOf147
 v212 := Tryz.zeroValue147
 g17 := by kernel_rfl
 i0 := by kernel_rfl
 i3 := by kernel_rfl
 i4 := by kernel_rfl
 i5 := by kernel_rfl
 i9 := by kernel_rfl
 i46 := by kernel_rfl
 i53 := by kernel_rfl
 i212 := by kernel_rfl
 m17 := by kernel_rfl }
def Tryz.lays285_ren : Go.Shelf.Ren := ⟨fun | 285 => 65 | n => n, fun | 37 => 22 | 53 => 28 | 3 => 3 | 4 => 4 | 51 => 148 | 9 => 9 | 5 => 5 | 0 => 0 | n => n, fun | n => n⟩
theorem Tryz.lays285 : Go.Proofs.Lays.n285 Tryz.prog Tryz.lays285_ren := {
 mixed := by kernel_rfl
 f285 := Tryz.func65.trans (congrArg some (by kernel_rfl))
 t0 := Tryz.underlying0
 a0 := Tryz.isAgg0
 z0 := Tryz.sizeOf0
 v0 := Tryz.zeroValue0
 t3 := Tryz.underlying3
 a3 := Tryz.isAgg3
 z3 := Tryz.sizeOf3
 v3 := Tryz.zeroValue3
 t4 := Tryz.underlying4
 a4 := Tryz.isAgg4
 z4 := Tryz.sizeOf4
 v4 := Tryz.zeroValue4
 t5 := Tryz.underlying5
 a5 := Tryz.isAgg5
 z5 := Tryz.sizeOf5
 v5 := Tryz.zeroValue5
 t9 := Tryz.underlying9
 a9 := Tryz.isAgg9
 z9 := Tryz.sizeOf9
 v9 := Tryz.zeroValue9
 t37 := Tryz.underlying22
 a37 := Tryz.isAgg22
 z37 := Tryz.sizeOf22
 v37 := Tryz.zeroValue22
 t51 := Tryz.underlying148
 a51 := Tryz.isAgg148
 z51 := Tryz.sizeOf148
 v51 := Tryz.zeroValue148
 t53 := Tryz.underlying28
 a53 := Tryz.isAgg28
 z53 := Tryz.sizeOf28
 v53 := Tryz.zeroValue28 }

theorem fmtUHolds (w : World) (T : TypeId) (nd : Nat) (hs : nd ≤ 24) : Holds (fun (b : UInt8) => Value.int .u8 (b.toNat : Int)) (w.alloc (.cells Lib.zeros24 T)) w.heap.size 0 (Array.replicate nd (0 : UInt8)) := fun j hj => by
 have hj' : j < nd := by simpa using hj
 refine ⟨?_, World.frozen?_alloc_new _ _ _ _⟩
 rw [World.cell?_alloc_new, Lib.zeros24_at _ (by omega), getElem!_pos _ j hj]
 simp
theorem fmtUFin (w : World) (o : Obj) (dk : Array UInt8) (k : Nat) : ∃ os, (putRow (fun (b : UInt8) => Value.int .u8 (b.toNat : Int)) (w.alloc o) w.heap.size 0 dk).drewN k = grow (w.drewN k) os := by
 rw [alloc_eq_grow]
 obtain ⟨os', _, e⟩ := putRow_grow_new (fun (b : UInt8) => Value.int .u8 (b.toNat : Int)) w #[o] w.heap.size 0 dk (Nat.le_refl _)
 exact ⟨os', by rw [e]; rfl⟩

set_option maxHeartbeats 6400000 in
set_option maxRecDepth 100000 in
theorem Tryz.internal_FormatUint (u : Nat) (hu64 : u < 18446744073709551616) (w : World) (htab : Lib.TabIs Tryz.prog w "internal/strconv.uint64pow10" .u64 Lib.pow10Tab) :
  Calls Tryz.prog 51 #[.int .u64 u, .int .i64 10] w fun e w' => e = .returned (.string ⟨(Lib.decDigits u).toArray⟩) ∧ ∃ k os, w' = grow (w.drewN k) os := by
 have mixed : Tryz.prog.follows .mixedOrders = true := by kernel_rfl
 have t82 := Tryz.underlying125; have t85 := Tryz.underlying22; have t9 := Tryz.underlying9; have t23 := Tryz.underlying28; have t3 := Tryz.underlying3
 have e69 : ∀ args w, (callFunc 63 args).run Tryz.prog w = .ok (.enter 63 args) w := enters_of Tryz.func63 (by kernel_rfl) rfl
 have e70 : ∀ args w, (callFunc 64 args).run Tryz.prog w = .ok (.enter 64 args) w := enters_of Tryz.func64 (by kernel_rfl) rfl
 have e71 : ∀ args w, (callFunc 65 args).run Tryz.prog w = .ok (.enter 65 args) w := enters_of Tryz.func65 (by kernel_rfl) rfl
 by_cases hs : u < 100
 · go_enter Tryz.func51, Tryz.ntmps51
   go_wp2_with (go_at_fn 63; refine (Any.internal_strconv_small Tryz.lays283 u hs _).mono ?_; rintro e w' ⟨rfl, rfl⟩)
   go_ret
   exact ⟨rfl, 0, #[], by simp [World.drewN_zero]⟩
 · have hu1 : 1 ≤ u := by omega
   have hnd20 : Lib.nDigits u ≤ 20 := by have := Lib.numDigits_eq u hu1 hu64; split at this <;> omega
   have hb3 : Lib.nDigits u ≤ 24 := by omega
   have hal : Tryz.prog.arrayLen 125 = 24 := by simp [Program.arrayLen, Tryz.underlying125]
   have hsl1 : ∀ W, (Instr.sliceAt 125 (.pointer (some ⟨w.heap.size, 0, none⟩)) none (some (.int .i64 (Lib.nDigits u : Int))) none).run Tryz.prog W = .ok (.slice (some ⟨w.heap.size, 0, none⟩) (Lib.nDigits u) 24) W := fun W => by
    rw [run_sliceAt_array_h W 125 ⟨w.heap.size, 0, none⟩ (by simp [Program.arrayLen, Program.elem, Tryz.underlying125]) .i64 (Lib.nDigits u : Int) (by omega) (by rw [hal]; omega)]
    go_simp
   have hH0 := fmtUHolds w 125 (Lib.nDigits u) (by omega)
   have hfmt := Any.internal_strconv_formatBase10 Tryz.lays285 w.heap.size 0 24 u (Array.replicate (Lib.nDigits u) 0) (w.alloc (.cells Lib.zeros24 125)) hH0 (by rw [Array.size_replicate]; exact Lib.lt_pow_nDigits u) hu64 (by rw [Array.size_replicate]; omega)
   rw [Array.size_replicate] at hfmt
   have HH0 := Lib.hid hH0
   clear hH0 hal
   go_enter Tryz.func51, Tryz.ntmps51
   go_wp2_with (first
    | (go_at_fn 64; refine (Any.internal_strconv_numDigits Tryz.laysM284 u hu1 hu64 _ (Lib.tabIs_alloc htab _)).mono ?_; rintro e w' ⟨rfl, rfl⟩))
   go_at_fn 65
   refine hfmt.mono ?_
   rintro e w' ⟨rfl, k, v', dk, rfl, hF⟩
   have hcv : (convert 22 9 (.slice (some ⟨w.heap.size, 0, none⟩) (Lib.nDigits u) 24)).run Tryz.prog ((putRow (fun (b : UInt8) => Value.int .u8 (b.toNat : Int)) (w.alloc (.cells Lib.zeros24 125)) w.heap.size 0 dk).drewN k) = .ok (.string ⟨(Lib.decDigits u).toArray⟩) ((putRow (fun (b : UInt8) => Value.int .u8 (b.toNat : Int)) (w.alloc (.cells Lib.zeros24 125)) w.heap.size 0 dk).drewN k) := by
    have h := run_convert_bytes_back (P := Tryz.prog) ((putRow (fun (b : UInt8) => Value.int .u8 (b.toNat : Int)) (w.alloc (.cells Lib.zeros24 125)) w.heap.size 0 dk).drewN k) 22 9 5 ⟨w.heap.size, 0, none⟩ 24 (Lib.decDigits u) Tryz.underlying22 Tryz.underlying5 Tryz.underlying9 (fun j hj => by
     rw [Lib.row_is_numeral hF j hj, Lib.add_plain, World.cell?_drewN]
     exact cell?_putRow (fun (b : UInt8) => Value.int .u8 (b.toNat : Int)) _ w.heap.size 0 _ dk HH0.out (by rw [hF.size, Array.size_replicate]) j (by rw [hF.size]; rw [Lib.decDigits_length] at hj; exact hj))
    rw [Lib.decDigits_length] at h
    exact h
   go_wp2
   go_ret
   obtain ⟨os, eo⟩ := fmtUFin w (.cells Lib.zeros24 125) dk k
   exact ⟨rfl, k, os, eo⟩
set_option maxRecDepth 100000 in
theorem Tryz.strconv_FormatUint (u : Nat) (hu64 : u < 18446744073709551616) (w : World) (htab : Lib.TabIs Tryz.prog w "internal/strconv.uint64pow10" .u64 Lib.pow10Tab) :
  Calls Tryz.prog 42 #[.int .u64 u, .int .i64 10] w fun e w' => e = .returned (.string ⟨(Lib.decDigits u).toArray⟩) ∧ ∃ k os, w' = grow (w.drewN k) os := by
 have e67 : ∀ args w, (callFunc 51 args).run Tryz.prog w = .ok (.enter 51 args) w := enters_of Tryz.func51 (by kernel_rfl) rfl
 go_enter Tryz.func42, Tryz.ntmps42
 go_wp2_with (go_at_fn 51; refine (Tryz.internal_FormatUint u hu64 _ htab).mono ?_; rintro e w' ⟨rfl, k, os, rfl⟩)
 go_ret
 exact ⟨rfl, k, os, rfl⟩
end Go.Proofs
namespace Go.Proofs.YtkledlcmhbjadaaGreatDoor
open Go Go.Eng Go.RowKit
theorem globs_keep {W : World} (h : Globs.G W) : ∀ w', (∀ k, k < W.heap.size → w'.heap[k]? = W.heap[k]?) → Globs.G w' := fun w' hb => by
 show Lib.TabIs Tryz.prog w' "internal/strconv.uint64pow10" .u64 Lib.pow10Tab
 have h : Lib.TabIs Tryz.prog W "internal/strconv.uint64pow10" .u64 Lib.pow10Tab := h
 unfold Lib.TabIs World.var? at *
 cases hg : Tryz.prog.globalNamed "internal/strconv.uint64pow10" with
 | none => simp [hg] at h
 | some g =>
  simp only [hg, Option.bind_some] at h ⊢
  have hlt : g < W.heap.size := by
   rcases Nat.lt_or_ge g W.heap.size with h' | h'
   · exact h'
   · rw [Array.getElem?_eq_none h'] at h; simp at h
  rw [hb g hlt]
  exact h
def fmtU (n : Int) : ByteArray := ⟨(Lib.decDigits n.toNat).toArray⟩
theorem Zd9 {n : Int} (h : n ≤ 18446744073709551615) : (fmtU n).size ≤ 20 := by
 show (Lib.decDigits n.toNat).toArray.size ≤ 20
 rw [List.size_toArray, Lib.decDigits_length]
 by_cases h0 : n.toNat = 0
 · rw [h0]; simp [Lib.nDigits]
 · have := Lib.numDigits_eq n.toNat (by omega) (by omega); split at this <;> omega
theorem fmtU_calls (n : Int) (hn : 0 ≤ n ∧ n ≤ 18446744073709551615) (w : World) (vs : List Value) (ρ : Eng.Loc) (M : Mem) (hG : Globs.G w) (hr : repL ρ M noG [.int .u64 n, .int .i64 10] vs) :
  Calls Tryz.prog 42 ⟨vs⟩ w fun e w' => ∃ v, e = .returned v ∧ (∀ ρ M, rep ρ M noG (.str (fmtU n)) v) ∧ Below w.heap.size w w' := by
 obtain ⟨u, rfl⟩ : ∃ u : Nat, n = u := ⟨n.toNat, by omega⟩
 match vs, hr with
 | [a, b], hr =>
  simp only [repL, rep, and_true] at hr
  obtain ⟨rfl, rfl⟩ := hr
  refine (Tryz.strconv_FormatUint u (by omega) w hG).mono ?_
  rintro e w' ⟨rfl, k, os, rfl⟩
  exact ⟨_, rfl, fun ρ M => by simp only [rep]; rfl, Lib.below_grow _ w (Nat.le_refl _) k os⟩
noncomputable def fmtU_fact : Fact Tryz.prog := factBelow 42 Tryz.f42 (by kernel_rfl) rfl (by kernel_rfl) [.c (.int .u64), .lit .i64 10] (fun t => .str (fmtU t.1)) (fun t => [0 ≤ t.1 ∧ t.1 ≤ 18446744073709551615]) (fun _ _ => rfl) (fun _ _ => by simp [ren])
 (fun t hp w vs ρ M hG hr => fmtU_calls t.1 (hp _ List.mem_cons_self) w vs ρ M hG hr)
def oc (x : XObj) : List AV := [.int .u8 x.kind, .str x.name, .int .u64 x.version, .int .u64 x.born, .bool x.deleting, .bool x.hold, .str x.cls, .int .i64 x.size, .int .i64 x.got, .int .u8 x.mode, .bool x.keep, .bool x.wait, .str x.zone, .str x.node, .str x.claim, .str x.volume, .str x.source, .int .u8 x.phase, .int .u64 x.num, .int .u64 x.tag]
def cc (x : XCall) : List AV := [.int .u8 x.verb, .str x.target, .int .u64 x.num, .int .i64 x.size, .str x.zone, .str x.node, .str x.source]
def ac (x : XAct) : List AV := [.int .u8 x.act, .int .u8 x.obj.kind, .str x.obj.name, .int .u64 x.obj.version, .int .u64 x.obj.born, .bool x.obj.deleting, .bool x.obj.hold, .str x.obj.cls, .int .i64 x.obj.size, .int .i64 x.obj.got, .int .u8 x.obj.mode, .bool x.obj.keep, .bool x.obj.wait, .str x.obj.zone, .str x.obj.node, .str x.obj.claim, .str x.obj.volume, .str x.obj.source, .int .u8 x.obj.phase, .int .u64 x.obj.num, .int .u64 x.obj.tag, .int .u8 x.call.verb, .str x.call.target, .int .u64 x.call.num, .int .i64 x.call.size, .str x.call.zone, .str x.call.node, .str x.call.source]
end Go.Proofs.YtkledlcmhbjadaaGreatDoor
