/- The driver: by hand: the sorted keys of a map. -/
import Derived.Shelf.SlIter.Nil
import Derived.Shelf.SlIter.Sorted
import Derived.Shelf.SortM.Plain
import Derived.Shelf.SortM.SortNone
import Derived.Maps.Own
import Derived.Test.YtkledlcmhbjadaaGreatDoorDH0
set_option linter.unusedVariables false
set_option linter.unusedSimpArgs false
set_option maxRecDepth 100000
namespace Go.Proofs
open Go.RowKit Go.Maps Go.Sort Go.Shelf
def Tryz.keysV_ren : Go.Shelf.Ren := ⟨fun | 7 => 60 | 10 => 73 | n => n, fun | 23 => 85 | 26 => 9 | 3 => 110 | 28 => 120 | 0 => 0 | 27 => 119 | 33 => 90 | 4 => 4 | n => n, fun | n => n⟩
theorem Tryz.keysV : Go.Proofs.SlLaysZ.n7 Tryz.prog Tryz.keysV_ren := {
 mixed := by kernel_rfl
 f7 := ⟨Tryz.f60.name, by decide, Tryz.func60.trans (congrArg some (by kernel_rfl))⟩
 f10 := ⟨Tryz.f73.name, by decide, Tryz.func73.trans (congrArg some (by kernel_rfl))⟩
 t0 := Tryz.underlying0
 a0 := Tryz.isAgg0
 z0 := Tryz.sizeOf0
 v0 := Tryz.zeroValue0
 t4 := Tryz.underlying4
 a4 := Tryz.isAgg4
 z4 := Tryz.sizeOf4
 v4 := Tryz.zeroValue4
 t23 := Tryz.underlying85
 a23 := Tryz.isAgg85
 z23 := Tryz.sizeOf85
 v23 := Tryz.zeroValue85
 t26 := Tryz.underlying9
 a26 := Tryz.isAgg9
 z26 := Tryz.sizeOf9
 v26 := Tryz.zeroValue9
 t27 := Tryz.underlying119
 a27 := Tryz.isAgg119
 z27 := Tryz.sizeOf119
 v27 := Tryz.zeroValue119
 t28 := Tryz.underlying120
 a28 := Tryz.isAgg120
 z28 := Tryz.sizeOf120
 v28 := Tryz.zeroValue120
 t33 := Tryz.underlying90
 a33 := Tryz.isAgg90
 z33 := Tryz.sizeOf90
 v33 := Tryz.zeroValue90 }
def Tryz.keysB_ren : Go.Shelf.Ren := ⟨fun | 7 => 62 | 10 => 74 | n => n, fun | 23 => 108 | 26 => 9 | 3 => 4 | 28 => 120 | 0 => 0 | 27 => 119 | 33 => 90 | 4 => 4 | n => n, fun | n => n⟩
theorem Tryz.keysB : Go.Proofs.SlLaysZ.n7 Tryz.prog Tryz.keysB_ren := {
 mixed := by kernel_rfl
 f7 := ⟨Tryz.f62.name, by decide, Tryz.func62.trans (congrArg some (by kernel_rfl))⟩
 f10 := ⟨Tryz.f74.name, by decide, Tryz.func74.trans (congrArg some (by kernel_rfl))⟩
 t0 := Tryz.underlying0
 a0 := Tryz.isAgg0
 z0 := Tryz.sizeOf0
 v0 := Tryz.zeroValue0
 t4 := Tryz.underlying4
 a4 := Tryz.isAgg4
 z4 := Tryz.sizeOf4
 v4 := Tryz.zeroValue4
 t23 := Tryz.underlying108
 a23 := Tryz.isAgg108
 z23 := Tryz.sizeOf108
 v23 := Tryz.zeroValue108
 t26 := Tryz.underlying9
 a26 := Tryz.isAgg9
 z26 := Tryz.sizeOf9
 v26 := Tryz.zeroValue9
 t27 := Tryz.underlying119
 a27 := Tryz.isAgg119
 z27 := Tryz.sizeOf119
 v27 := Tryz.zeroValue119
 t28 := Tryz.underlying120
 a28 := Tryz.isAgg120
 z28 := Tryz.sizeOf120
 v28 := Tryz.zeroValue120
 t33 := Tryz.underlying90
 a33 := Tryz.isAgg90
 z33 := Tryz.sizeOf90
 v33 := Tryz.zeroValue90 }
def Tryz.sortedA_ren : Go.Shelf.Ren := ⟨fun | 6 => 59 | 8 => 71 | 9 => 72 | 11 => 82 | 13 => 84 | 12 => 83 | 23 => 98 | 24 => 76 | 14 => 89 | 15 => 90 | 16 => 91 | 17 => 92 | 18 => 93 | 19 => 94 | 20 => 95 | 21 => 96 | 22 => 97 | 25 => 99 | 26 => 100 | 27 => 101 | 28 => 102 | 29 => 103 | 30 => 104 | 31 => 105 | n => n, fun | 26 => 9 | 28 => 120 | 24 => 51 | 0 => 0 | 3 => 3 | 37 => 151 | 48 => 148 | 50 => 28 | 4 => 4 | 40 => 162 | 39 => 161 | 45 => 167 | 5 => 5 | 9 => 9 | 51 => 171 | 55 => 175 | 57 => 177 | 58 => 178 | 33 => 90 | n => n, fun | n => n⟩
theorem Tryz.sortedA : Go.Proofs.SlLaysZ.n6 Tryz.prog Tryz.sortedA_ren := {
 mixed := by kernel_rfl
 f6 := ⟨Tryz.f59.name, by decide, Tryz.func59.trans (congrArg some (by kernel_rfl))⟩
 f8 := ⟨Tryz.f71.name, by decide, Tryz.func71.trans (congrArg some (by kernel_rfl))⟩
 f11 := ⟨Tryz.f82.name, by decide, Tryz.func82.trans (congrArg some (by kernel_rfl))⟩
 t0 := Tryz.underlying0
 a0 := Tryz.isAgg0
 z0 := Tryz.sizeOf0
 v0 := Tryz.zeroValue0
 t24 := Tryz.underlying51
 a24 := Tryz.isAgg51
 z24 := Tryz.sizeOf51
 v24 := Tryz.zeroValue51
 t26 := Tryz.underlying9
 a26 := Tryz.isAgg9
 z26 := Tryz.sizeOf9
 v26 := Tryz.zeroValue9
 t28 := Tryz.underlying120
 a28 := Tryz.isAgg120
 z28 := Tryz.sizeOf120
 v28 := Tryz.zeroValue120
 i26 := by kernel_rfl }
def Tryz.sortA_ren : Go.Shelf.Ren := ⟨fun | 6 => 72 | 8 => 84 | 9 => 83 | 19 => 98 | 20 => 76 | 21 => 89 | 22 => 90 | 23 => 91 | 24 => 92 | 25 => 93 | 26 => 94 | 27 => 95 | 28 => 96 | 29 => 97 | 36 => 99 | 31 => 100 | 32 => 101 | 37 => 102 | 38 => 103 | 39 => 104 | 41 => 105 | n => n, fun | 27 => 51 | 29 => 9 | 3 => 3 | 32 => 151 | 26 => 51 | 0 => 0 | 44 => 148 | 46 => 28 | 4 => 4 | 36 => 162 | 35 => 161 | 41 => 167 | 5 => 5 | 9 => 9 | 53 => 171 | 57 => 175 | 63 => 177 | 64 => 178 | n => n, fun | n => n⟩
theorem Tryz.sortA : Go.Proofs.SlLaysM.n6 Tryz.prog Tryz.sortA_ren := {
 mixed := by kernel_rfl
 f6 := ⟨Tryz.f72.name, by decide, Tryz.func72.trans (congrArg some (by kernel_rfl))⟩
 f8 := Tryz.func84.trans (congrArg some (by kernel_rfl))
 f9 := ⟨Tryz.f83.name, by decide, Tryz.func83.trans (congrArg some (by kernel_rfl))⟩
 f19 := Tryz.func98.trans (congrArg some (by kernel_rfl))
 f20 := Tryz.func76.trans (congrArg some (by kernel_rfl))
 f21 := ⟨Tryz.f89.name, by decide, Tryz.func89.trans (congrArg some (by kernel_rfl))⟩
 f22 := ⟨Tryz.f90.name, by decide, Tryz.func90.trans (congrArg some (by kernel_rfl))⟩
 f23 := ⟨Tryz.f91.name, by decide, Tryz.func91.trans (congrArg some (by kernel_rfl))⟩
 f24 := ⟨Tryz.f92.name, by decide, Tryz.func92.trans (congrArg some (by kernel_rfl))⟩
 f25 := ⟨Tryz.f93.name, by decide, Tryz.func93.trans (congrArg some (by kernel_rfl))⟩
 f26 := ⟨Tryz.f94.name, by decide, Tryz.func94.trans (congrArg some (by kernel_rfl))⟩
 f27 := ⟨Tryz.f95.name, by decide, Tryz.func95.trans (congrArg some (by kernel_rfl))⟩
 f28 := ⟨Tryz.f96.name, by decide, Tryz.func96.trans (congrArg some (by kernel_rfl))⟩
 f29 := ⟨Tryz.f97.name, by decide, Tryz.func97.trans (congrArg some (by kernel_rfl))⟩
 f31 := Tryz.func100.trans (congrArg some (by kernel_rfl))
 f32 := Tryz.func101.trans (congrArg some (by kernel_rfl))
 f36 := ⟨Tryz.f99.name, by decide, Tryz.func99.trans (congrArg some (by kernel_rfl))⟩
 f37 := ⟨Tryz.f102.name, by decide, Tryz.func102.trans (congrArg some (by kernel_rfl))⟩
 f38 := ⟨Tryz.f103.name, by decide, Tryz.func103.trans (congrArg some (by kernel_rfl))⟩
 f39 := ⟨Tryz.f104.name, by decide, Tryz.func104.trans (congrArg some (by kernel_rfl))⟩
 f41 := ⟨Tryz.f105.name, by decide, Tryz.func105.trans (congrArg some (by kernel_rfl))⟩
 t0 := Tryz.underlying0
 a0 := Tryz.isAgg0
 z0 := Tryz.sizeOf0
 v0 := Tryz.zeroValue0
 t3 := Tryz.underlying3
 a3 := Tryz.isAgg3
 z3 := Tryz.sizeOf3
 v3 := Tryz.zeroValue3
 t4 := Tryz.underlying4
 a4 := Tryz.isAgg4
 z4 := Tryz.sizeOf4
 v4 := Tryz.zeroValue4
 t5 := Tryz.underlying5
 a5 := Tryz.isAgg5
 z5 := Tryz.sizeOf5
 v5 := Tryz.zeroValue5
 t9 := Tryz.underlying9
 a9 := Tryz.isAgg9
 z9 := Tryz.sizeOf9
 v9 := Tryz.zeroValue9
 t26 := Tryz.underlying51
 a26 := Tryz.isAgg51
 z26 := Tryz.sizeOf51
 v26 := Tryz.zeroValue51
 t27 := Tryz.underlying51
 a27 := Tryz.isAgg51
 z27 := Tryz.sizeOf51
 v27 := Tryz.zeroValue51
 t29 := Tryz.underlying9
 a29 := Tryz.isAgg9
 z29 := Tryz.sizeOf9
 v29 := Tryz.zeroValue9
 t32 := Tryz.underlying151
 a32 := Tryz.isAgg151
 z32 := Tryz.sizeOf151
 v32 := Tryz.zeroValue151
 t35 := Tryz.underlying161
 a35 := Tryz.isAgg161
 z35 := Tryz.sizeOf161
 v35 := Tryz.zeroValue161
 t36 := Tryz.underlying162
 a36 := Tryz.isAgg162
 z36 := Tryz.sizeOf162
 v36 := Tryz.zeroValue162
 t41 := Tryz.underlying167
 a41 := Tryz.isAgg167
 z41 := Tryz.sizeOf167
 v41 := Tryz.zeroValue167
 t44 := Tryz.underlying148
 a44 := Tryz.isAgg148
 z44 := Tryz.sizeOf148
 v44 := Tryz.zeroValue148
 t46 := Tryz.underlying28
 a46 := Tryz.isAgg28
 z46 := Tryz.sizeOf28
 v46 := Tryz.zeroValue28
 t53 := Tryz.underlying171
 a53 := Tryz.isAgg171
 z53 := Tryz.sizeOf171
 v53 := Tryz.zeroValue171
 t57 := Tryz.underlying175
 a57 := Tryz.isAgg175
 z57 := Tryz.sizeOf175
 v57 := Tryz.zeroValue175
 t63 := Tryz.underlying177
 a63 := Tryz.isAgg177
 z63 := Tryz.sizeOf177
 v63 := Tryz.zeroValue177
 t64 := Tryz.underlying178
 a64 := Tryz.isAgg178
 z64 := Tryz.sizeOf178
 v64 := Tryz.zeroValue178 }
theorem Tryz.sortsA (m : Nat) : AnyZ.SortsIn Tryz.prog Tryz.sortedA_ren Fence.wide m :=
 ⟨fun blk off cap ss W hH hblk hsz => callsIn_wide.2 (AnyM.slices_Sort_string Tryz.sortA blk off cap ss W hH hblk hsz),
  fun p cap W => callsIn_wide.2 (AnyM.slices_Sort_string_none Tryz.sortA p cap W)⟩
theorem Tryz.sortedV {H : Type} (B b nn : Nat) (D0 : DataW H) (R : Value → Option (DataW H × List MemPlace)) (w : World) (hB : B < w.heap.size) (hm : w.cell? ⟨B, 0, none⟩ = some (.map (some b)))
  (hown : w.ownsMap Tryz.prog 9 R b nn D0) (hmax : Maps.size D0 ≤ maxLen) (hbytes : Maps.size D0 * 16 ≤ 140737488355328) :
  Calls Tryz.prog 59 #[.func (.func 73) #[] #[.pointer (some ⟨B, 0, none⟩)]] w fun e w' => ∃ (v : Value) (ss : List (List UInt8)), e = .returned v ∧ ss.Perm (strKeys D0) ∧
   w'.ownsRow w.heap.size 9 1 v ss.length ((ss.mergeSort (fun x y => decide (x ≤ y))).map encStr) ∧ (v = .slice none 0 0 ↔ ss = []) ∧ Below w.heap.size w w' := by
 refine (callsIn_wide (n := 5)).1 ?_
 have hseq : SeqGives Fence.wide 2 Tryz.prog 73 #[.pointer (some ⟨B, 0, none⟩)] encStr (fun ss => ss.Perm (strKeys D0)) (Maps.size D0) w :=
  AnyZ.keys_gives (ρ := Tryz.keysV_ren) { Tryz.keysV with } Fence.wide _ trivial rfl (by omega) B b nn D0 w hB hm hown
 exact AnyZ.sorted_in Tryz.sortedA Fence.wide 5 trivial trivial trivial trivial rfl (by omega) (Tryz.sortsA _) (enters_of Tryz.func72 (by kernel_rfl) rfl) 73 #[.pointer (some ⟨B, 0, none⟩)] trivial (enters_of Tryz.func73 (by kernel_rfl) rfl) _ _ hmax hbytes _ hseq
theorem Tryz.sortedB {H : Type} (B b nn : Nat) (D0 : DataW H) (R : Value → Option (DataW H × List MemPlace)) (w : World) (hB : B < w.heap.size) (hm : w.cell? ⟨B, 0, none⟩ = some (.map (some b)))
  (hown : w.ownsMap Tryz.prog 9 R b nn D0) (hmax : Maps.size D0 ≤ maxLen) (hbytes : Maps.size D0 * 16 ≤ 140737488355328) :
  Calls Tryz.prog 59 #[.func (.func 74) #[] #[.pointer (some ⟨B, 0, none⟩)]] w fun e w' => ∃ (v : Value) (ss : List (List UInt8)), e = .returned v ∧ ss.Perm (strKeys D0) ∧
   w'.ownsRow w.heap.size 9 1 v ss.length ((ss.mergeSort (fun x y => decide (x ≤ y))).map encStr) ∧ (v = .slice none 0 0 ↔ ss = []) ∧ Below w.heap.size w w' := by
 refine (callsIn_wide (n := 5)).1 ?_
 have hseq : SeqGives Fence.wide 2 Tryz.prog 74 #[.pointer (some ⟨B, 0, none⟩)] encStr (fun ss => ss.Perm (strKeys D0)) (Maps.size D0) w :=
  AnyZ.keys_gives (ρ := Tryz.keysB_ren) { Tryz.keysB with } Fence.wide _ trivial rfl (by omega) B b nn D0 w hB hm hown
 exact AnyZ.sorted_in Tryz.sortedA Fence.wide 5 trivial trivial trivial trivial rfl (by omega) (Tryz.sortsA _) (enters_of Tryz.func72 (by kernel_rfl) rfl) 74 #[.pointer (some ⟨B, 0, none⟩)] trivial (enters_of Tryz.func74 (by kernel_rfl) rfl) _ _ hmax hbytes _ hseq
end Go.Proofs
namespace Go.Proofs.YtkledlcmhbjadaaGreatDoor
open Go Go.Eng Go.RowKit
def rdAll (_ : Value) : Option (DataW Unit × List MemPlace) := some (.lit (.bool true), [])
theorem key_read {P : Program} (hs : P.underlying 9 = some .string) {s : ByteArray} (hl : s.size ≤ maxLen) : keyOf P 9 (.string s) = some (.string s.data.toList) := by
 simp [keyOf, hs, mapKey, hl]
theorem keys_mem {M : Mem} {v : Kind} : ∀ {xs : List (ByteArray × v.Ty)} {es : List MapEntry}, Z51 M .str v xs es → ∀ e ∈ es, ∃ x ∈ xs, e.key = .string x.1
 | [], [], _, e, he => by cases he
 | x :: xs, m :: es, h, e, he => by
  simp only [Z51] at h
  rcases List.mem_cons.1 he with rfl | he
  · exact ⟨x, List.mem_cons_self, Zd3 h.1⟩
  · obtain ⟨y, h1, h2⟩ := keys_mem h.2.2 e he
    exact ⟨y, List.mem_cons_of_mem _ h1, h2⟩
 | [], _ :: _, h, _, _ => by simp [Z51] at h
 | _ :: _, [], h, _, _ => by simp [Z51] at h
def datumOf (P : Program) (ents : Array MapEntry) : DataW Unit := .map ((ents.toList.map (Go.WideElems.rg P 9 rdAll)).foldr DataW.insert [])
theorem owns_of {P : Program} (hs : P.underlying 9 = some .string) {M : Mem} {w : World} {v : Kind} {xs : List (ByteArray × v.Ty)} {ents : Array MapEntry} {clock b : Nat} (hb : w.heap[b]? = some (.map ents clock)) (he : Z51 M .str v xs ents.toList)
  (hst : MapKept.Stamped ents clock) (hsz : ents.size ≤ maxLen) (hk : ∀ x ∈ xs, x.1.size ≤ maxLen) : w.ownsMap P 9 rdAll b ents.size (datumOf P ents) := by
 refine ⟨ents, clock, hb, ⟨hsz, hst, fun x hx => ?_⟩, Nat.le_refl _, rfl⟩
 obtain ⟨y, h1, h2⟩ := keys_mem he x hx
 exact ⟨(.string y.1.data.toList, .lit (.bool true)), by simp [Go.WideElems.rd, h2, key_read hs (hk y h1), rdAll]⟩
theorem rg_keys {P : Program} (hs : P.underlying 9 = some .string) {M : Mem} {v : Kind} : ∀ {xs : List (ByteArray × v.Ty)} {es : List MapEntry}, Z51 M .str v xs es → (∀ x ∈ xs, x.1.size ≤ maxLen) → (es.map (Go.WideElems.rg P 9 rdAll)).map (fun p => Go.strOf p.1) = xs.map fun x => x.1.data.toList
 | [], [], _, _ => rfl
 | x :: xs, m :: es, h, hk => by
  simp only [Z51] at h
  simp only [List.map_cons]
  rw [rg_keys hs h.2.2 fun y hy => hk y (List.mem_cons_of_mem _ hy)]
  congr 1
  simp [Go.WideElems.rg, Go.WideElems.rd, Zd3 h.1, key_read hs (hk x List.mem_cons_self), rdAll, Go.strOf]
 | [], _ :: _, h, _ => by simp [Z51] at h
 | _ :: _, [], h, _ => by simp [Z51] at h
theorem strKeys_datum {P : Program} (hs : P.underlying 9 = some .string) {M : Mem} {v : Kind} {xs : List (ByteArray × v.Ty)} {ents : Array MapEntry} (he : Z51 M .str v xs ents.toList) (hk : ∀ x ∈ xs, x.1.size ≤ maxLen) :
  (Go.strKeys (datumOf P ents)).Perm (xs.map fun x => x.1.data.toList) := by
 rw [← rg_keys hs he hk]
 exact (Go.WideShapes.sorted_perm _).map _
theorem size_datum {P : Program} {M : Mem} {v : Kind} {xs : List (ByteArray × v.Ty)} {ents : Array MapEntry} (he : Z51 M .str v xs ents.toList) : Maps.size (datumOf P ents) = xs.length := by
 show ((ents.toList.map (Go.WideElems.rg P 9 rdAll)).foldr DataW.insert []).length = xs.length
 rw [(Go.WideShapes.sorted_perm _).length_eq, List.length_map, ← Zd7 he]
end Go.Proofs.YtkledlcmhbjadaaGreatDoor
