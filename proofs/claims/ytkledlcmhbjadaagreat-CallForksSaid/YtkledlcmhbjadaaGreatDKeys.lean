/- The driver: by hand: the sorted keys of a map. -/
import Derived.Shelf.SlIter.Nil
import Derived.Shelf.SlIter.Sorted
import Derived.Shelf.SortM.Plain
import Derived.Shelf.SortM.SortNone
import Derived.Maps.Own
import Derived.Test.YtkledlcmhbjadaaGreatDH0
set_option linter.unusedVariables false
set_option linter.unusedSimpArgs false
set_option maxRecDepth 100000
namespace Go.Proofs
open Go.RowKit Go.Maps Go.Sort Go.Shelf
def Tryz.keysV_ren : Go.Shelf.Ren := ⟨fun | 7 => 76 | 10 => 92 | n => n, fun | 23 => 83 | 26 => 9 | 3 => 91 | 28 => 132 | 0 => 0 | 27 => 131 | 33 => 112 | 4 => 4 | n => n, fun | n => n⟩
theorem Tryz.keysV : Go.Proofs.SlLaysZ.n7 Tryz.prog Tryz.keysV_ren := {
 mixed := by kernel_rfl
 f7 := ⟨Tryz.f76.name, by decide, Tryz.func76.trans (congrArg some (by kernel_rfl))⟩
 f10 := ⟨Tryz.f92.name, by decide, Tryz.func92.trans (congrArg some (by kernel_rfl))⟩
 t0 := Tryz.underlying0
 a0 := Tryz.isAgg0
 z0 := Tryz.sizeOf0
 v0 := Tryz.zeroValue0
 t4 := Tryz.underlying4
 a4 := Tryz.isAgg4
 z4 := Tryz.sizeOf4
 v4 := Tryz.zeroValue4
 t23 := Tryz.underlying83
 a23 := Tryz.isAgg83
 z23 := Tryz.sizeOf83
 v23 := Tryz.zeroValue83
 t26 := Tryz.underlying9
 a26 := Tryz.isAgg9
 z26 := Tryz.sizeOf9
 v26 := Tryz.zeroValue9
 t27 := Tryz.underlying131
 a27 := Tryz.isAgg131
 z27 := Tryz.sizeOf131
 v27 := Tryz.zeroValue131
 t28 := Tryz.underlying132
 a28 := Tryz.isAgg132
 z28 := Tryz.sizeOf132
 v28 := Tryz.zeroValue132
 t33 := Tryz.underlying112
 a33 := Tryz.isAgg112
 z33 := Tryz.sizeOf112
 v33 := Tryz.zeroValue112 }
def Tryz.keysB_ren : Go.Shelf.Ren := ⟨fun | 7 => 78 | 10 => 93 | n => n, fun | 23 => 89 | 26 => 9 | 3 => 4 | 28 => 132 | 0 => 0 | 27 => 131 | 33 => 112 | 4 => 4 | n => n, fun | n => n⟩
theorem Tryz.keysB : Go.Proofs.SlLaysZ.n7 Tryz.prog Tryz.keysB_ren := {
 mixed := by kernel_rfl
 f7 := ⟨Tryz.f78.name, by decide, Tryz.func78.trans (congrArg some (by kernel_rfl))⟩
 f10 := ⟨Tryz.f93.name, by decide, Tryz.func93.trans (congrArg some (by kernel_rfl))⟩
 t0 := Tryz.underlying0
 a0 := Tryz.isAgg0
 z0 := Tryz.sizeOf0
 v0 := Tryz.zeroValue0
 t4 := Tryz.underlying4
 a4 := Tryz.isAgg4
 z4 := Tryz.sizeOf4
 v4 := Tryz.zeroValue4
 t23 := Tryz.underlying89
 a23 := Tryz.isAgg89
 z23 := Tryz.sizeOf89
 v23 := Tryz.zeroValue89
 t26 := Tryz.underlying9
 a26 := Tryz.isAgg9
 z26 := Tryz.sizeOf9
 v26 := Tryz.zeroValue9
 t27 := Tryz.underlying131
 a27 := Tryz.isAgg131
 z27 := Tryz.sizeOf131
 v27 := Tryz.zeroValue131
 t28 := Tryz.underlying132
 a28 := Tryz.isAgg132
 z28 := Tryz.sizeOf132
 v28 := Tryz.zeroValue132
 t33 := Tryz.underlying112
 a33 := Tryz.isAgg112
 z33 := Tryz.sizeOf112
 v33 := Tryz.zeroValue112 }
def Tryz.keysS_ren : Go.Shelf.Ren := ⟨fun | 7 => 81 | 10 => 94 | n => n, fun | 23 => 84 | 26 => 9 | 3 => 94 | 28 => 132 | 0 => 0 | 27 => 131 | 33 => 112 | 4 => 4 | n => n, fun | n => n⟩
theorem Tryz.keysS : Go.Proofs.SlLaysZ.n7 Tryz.prog Tryz.keysS_ren := {
 mixed := by kernel_rfl
 f7 := ⟨Tryz.f81.name, by decide, Tryz.func81.trans (congrArg some (by kernel_rfl))⟩
 f10 := ⟨Tryz.f94.name, by decide, Tryz.func94.trans (congrArg some (by kernel_rfl))⟩
 t0 := Tryz.underlying0
 a0 := Tryz.isAgg0
 z0 := Tryz.sizeOf0
 v0 := Tryz.zeroValue0
 t4 := Tryz.underlying4
 a4 := Tryz.isAgg4
 z4 := Tryz.sizeOf4
 v4 := Tryz.zeroValue4
 t23 := Tryz.underlying84
 a23 := Tryz.isAgg84
 z23 := Tryz.sizeOf84
 v23 := Tryz.zeroValue84
 t26 := Tryz.underlying9
 a26 := Tryz.isAgg9
 z26 := Tryz.sizeOf9
 v26 := Tryz.zeroValue9
 t27 := Tryz.underlying131
 a27 := Tryz.isAgg131
 z27 := Tryz.sizeOf131
 v27 := Tryz.zeroValue131
 t28 := Tryz.underlying132
 a28 := Tryz.isAgg132
 z28 := Tryz.sizeOf132
 v28 := Tryz.zeroValue132
 t33 := Tryz.underlying112
 a33 := Tryz.isAgg112
 z33 := Tryz.sizeOf112
 v33 := Tryz.zeroValue112 }
def Tryz.sortedA_ren : Go.Shelf.Ren := ⟨fun | 6 => 75 | 8 => 90 | 9 => 91 | 11 => 95 | 13 => 97 | 12 => 96 | 23 => 107 | 24 => 108 | 14 => 98 | 15 => 99 | 16 => 100 | 17 => 101 | 18 => 102 | 19 => 103 | 20 => 104 | 21 => 105 | 22 => 106 | 25 => 109 | 26 => 110 | 27 => 111 | 28 => 112 | 29 => 113 | 30 => 114 | 31 => 115 | n => n, fun | 26 => 9 | 28 => 132 | 24 => 104 | 0 => 0 | 3 => 3 | 37 => 149 | 48 => 160 | 50 => 32 | 4 => 4 | 40 => 152 | 39 => 151 | 45 => 157 | 5 => 5 | 9 => 9 | 51 => 162 | 55 => 166 | 57 => 168 | 58 => 169 | 33 => 112 | n => n, fun | n => n⟩
theorem Tryz.sortedA : Go.Proofs.SlLaysZ.n6 Tryz.prog Tryz.sortedA_ren := {
 mixed := by kernel_rfl
 f6 := ⟨Tryz.f75.name, by decide, Tryz.func75.trans (congrArg some (by kernel_rfl))⟩
 f8 := ⟨Tryz.f90.name, by decide, Tryz.func90.trans (congrArg some (by kernel_rfl))⟩
 f11 := ⟨Tryz.f95.name, by decide, Tryz.func95.trans (congrArg some (by kernel_rfl))⟩
 t0 := Tryz.underlying0
 a0 := Tryz.isAgg0
 z0 := Tryz.sizeOf0
 v0 := Tryz.zeroValue0
 t24 := Tryz.underlying104
 a24 := Tryz.isAgg104
 z24 := Tryz.sizeOf104
 v24 := Tryz.zeroValue104
 t26 := Tryz.underlying9
 a26 := Tryz.isAgg9
 z26 := Tryz.sizeOf9
 v26 := Tryz.zeroValue9
 t28 := Tryz.underlying132
 a28 := Tryz.isAgg132
 z28 := Tryz.sizeOf132
 v28 := Tryz.zeroValue132
 i26 := by kernel_rfl }
def Tryz.sortA_ren : Go.Shelf.Ren := ⟨fun | 6 => 91 | 8 => 97 | 9 => 96 | 19 => 107 | 20 => 108 | 21 => 98 | 22 => 99 | 23 => 100 | 24 => 101 | 25 => 102 | 26 => 103 | 27 => 104 | 28 => 105 | 29 => 106 | 36 => 109 | 31 => 110 | 32 => 111 | 37 => 112 | 38 => 113 | 39 => 114 | 41 => 115 | n => n, fun | 27 => 104 | 29 => 9 | 3 => 3 | 32 => 149 | 26 => 104 | 0 => 0 | 44 => 160 | 46 => 32 | 4 => 4 | 36 => 152 | 35 => 151 | 41 => 157 | 5 => 5 | 9 => 9 | 53 => 162 | 57 => 166 | 63 => 168 | 64 => 169 | n => n, fun | n => n⟩
theorem Tryz.sortA : Go.Proofs.SlLaysM.n6 Tryz.prog Tryz.sortA_ren := {
 mixed := by kernel_rfl
 f6 := ⟨Tryz.f91.name, by decide, Tryz.func91.trans (congrArg some (by kernel_rfl))⟩
 f8 := Tryz.func97.trans (congrArg some (by kernel_rfl))
 f9 := ⟨Tryz.f96.name, by decide, Tryz.func96.trans (congrArg some (by kernel_rfl))⟩
 f19 := Tryz.func107.trans (congrArg some (by kernel_rfl))
 f20 := Tryz.func108.trans (congrArg some (by kernel_rfl))
 f21 := ⟨Tryz.f98.name, by decide, Tryz.func98.trans (congrArg some (by kernel_rfl))⟩
 f22 := ⟨Tryz.f99.name, by decide, Tryz.func99.trans (congrArg some (by kernel_rfl))⟩
 f23 := ⟨Tryz.f100.name, by decide, Tryz.func100.trans (congrArg some (by kernel_rfl))⟩
 f24 := ⟨Tryz.f101.name, by decide, Tryz.func101.trans (congrArg some (by kernel_rfl))⟩
 f25 := ⟨Tryz.f102.name, by decide, Tryz.func102.trans (congrArg some (by kernel_rfl))⟩
 f26 := ⟨Tryz.f103.name, by decide, Tryz.func103.trans (congrArg some (by kernel_rfl))⟩
 f27 := ⟨Tryz.f104.name, by decide, Tryz.func104.trans (congrArg some (by kernel_rfl))⟩
 f28 := ⟨Tryz.f105.name, by decide, Tryz.func105.trans (congrArg some (by kernel_rfl))⟩
 f29 := ⟨Tryz.f106.name, by decide, Tryz.func106.trans (congrArg some (by kernel_rfl))⟩
 f31 := Tryz.func110.trans (congrArg some (by kernel_rfl))
 f32 := Tryz.func111.trans (congrArg some (by kernel_rfl))
 f36 := ⟨Tryz.f109.name, by decide, Tryz.func109.trans (congrArg some (by kernel_rfl))⟩
 f37 := ⟨Tryz.f112.name, by decide, Tryz.func112.trans (congrArg some (by kernel_rfl))⟩
 f38 := ⟨Tryz.f113.name, by decide, Tryz.func113.trans (congrArg some (by kernel_rfl))⟩
 f39 := ⟨Tryz.f114.name, by decide, Tryz.func114.trans (congrArg some (by kernel_rfl))⟩
 f41 := ⟨Tryz.f115.name, by decide, Tryz.func115.trans (congrArg some (by kernel_rfl))⟩
 t0 := Tryz.underlying0
 a0 := Tryz.isAgg0
 z0 := Tryz.sizeOf0
 v0 := Tryz.zeroValue0
 t3 := Tryz.underlying3
 a3 := Tryz.isAgg3
 z3 := Tryz.sizeOf3
 v3 := Tryz.zeroValue3
 t4 := Tryz.underlying4
 a4 := Tryz.isAgg4
 z4 := Tryz.sizeOf4
 v4 := Tryz.zeroValue4
 t5 := Tryz.underlying5
 a5 := Tryz.isAgg5
 z5 := Tryz.sizeOf5
 v5 := Tryz.zeroValue5
 t9 := Tryz.underlying9
 a9 := Tryz.isAgg9
 z9 := Tryz.sizeOf9
 v9 := Tryz.zeroValue9
 t26 := Tryz.underlying104
 a26 := Tryz.isAgg104
 z26 := Tryz.sizeOf104
 v26 := Tryz.zeroValue104
 t27 := Tryz.underlying104
 a27 := Tryz.isAgg104
 z27 := Tryz.sizeOf104
 v27 := Tryz.zeroValue104
 t29 := Tryz.underlying9
 a29 := Tryz.isAgg9
 z29 := Tryz.sizeOf9
 v29 := Tryz.zeroValue9
 t32 := Tryz.underlying149
 a32 := Tryz.isAgg149
 z32 := Tryz.sizeOf149
 v32 := Tryz.zeroValue149
 t35 := Tryz.underlying151
 a35 := Tryz.isAgg151
 z35 := Tryz.sizeOf151
 v35 := Tryz.zeroValue151
 t36 := Tryz.underlying152
 a36 := Tryz.isAgg152
 z36 := Tryz.sizeOf152
 v36 := Tryz.zeroValue152
 t41 := Tryz.underlying157
 a41 := Tryz.isAgg157
 z41 := Tryz.sizeOf157
 v41 := Tryz.zeroValue157
 t44 := Tryz.underlying160
 a44 := Tryz.isAgg160
 z44 := Tryz.sizeOf160
 v44 := Tryz.zeroValue160
 t46 := Tryz.underlying32
 a46 := Tryz.isAgg32
 z46 := Tryz.sizeOf32
 v46 := Tryz.zeroValue32
 t53 := Tryz.underlying162
 a53 := Tryz.isAgg162
 z53 := Tryz.sizeOf162
 v53 := Tryz.zeroValue162
 t57 := Tryz.underlying166
 a57 := Tryz.isAgg166
 z57 := Tryz.sizeOf166
 v57 := Tryz.zeroValue166
 t63 := Tryz.underlying168
 a63 := Tryz.isAgg168
 z63 := Tryz.sizeOf168
 v63 := Tryz.zeroValue168
 t64 := Tryz.underlying169
 a64 := Tryz.isAgg169
 z64 := Tryz.sizeOf169
 v64 := Tryz.zeroValue169 }
theorem Tryz.sortsA (m : Nat) : AnyZ.SortsIn Tryz.prog Tryz.sortedA_ren Fence.wide m :=
 ⟨fun blk off cap ss W hH hblk hsz => callsIn_wide.2 (AnyM.slices_Sort_string Tryz.sortA blk off cap ss W hH hblk hsz),
  fun p cap W => callsIn_wide.2 (AnyM.slices_Sort_string_none Tryz.sortA p cap W)⟩
theorem Tryz.sortedV {H : Type} (B b nn : Nat) (D0 : DataW H) (R : Value → Option (DataW H × List MemPlace)) (w : World) (hB : B < w.heap.size) (hm : w.cell? ⟨B, 0, none⟩ = some (.map (some b)))
  (hown : w.ownsMap Tryz.prog 9 R b nn D0) (hmax : Maps.size D0 ≤ maxLen) (hbytes : Maps.size D0 * 16 ≤ 140737488355328) :
  Calls Tryz.prog 75 #[.func (.func 92) #[] #[.pointer (some ⟨B, 0, none⟩)]] w fun e w' => ∃ (v : Value) (ss : List (List UInt8)), e = .returned v ∧ ss.Perm (strKeys D0) ∧
   w'.ownsRow w.heap.size 9 1 v ss.length ((ss.mergeSort (fun x y => decide (x ≤ y))).map encStr) ∧ (v = .slice none 0 0 ↔ ss = []) ∧ Below w.heap.size w w' := by
 refine (callsIn_wide (n := 5)).1 ?_
 have hseq : SeqGives Fence.wide 2 Tryz.prog 92 #[.pointer (some ⟨B, 0, none⟩)] encStr (fun ss => ss.Perm (strKeys D0)) (Maps.size D0) w :=
  AnyZ.keys_gives (ρ := Tryz.keysV_ren) { Tryz.keysV with } Fence.wide _ trivial rfl (by omega) B b nn D0 w hB hm hown
 exact AnyZ.sorted_in Tryz.sortedA Fence.wide 5 trivial trivial trivial trivial rfl (by omega) (Tryz.sortsA _) (enters_of Tryz.func91 (by kernel_rfl) rfl) 92 #[.pointer (some ⟨B, 0, none⟩)] trivial (enters_of Tryz.func92 (by kernel_rfl) rfl) _ _ hmax hbytes _ hseq
theorem Tryz.sortedB {H : Type} (B b nn : Nat) (D0 : DataW H) (R : Value → Option (DataW H × List MemPlace)) (w : World) (hB : B < w.heap.size) (hm : w.cell? ⟨B, 0, none⟩ = some (.map (some b)))
  (hown : w.ownsMap Tryz.prog 9 R b nn D0) (hmax : Maps.size D0 ≤ maxLen) (hbytes : Maps.size D0 * 16 ≤ 140737488355328) :
  Calls Tryz.prog 75 #[.func (.func 93) #[] #[.pointer (some ⟨B, 0, none⟩)]] w fun e w' => ∃ (v : Value) (ss : List (List UInt8)), e = .returned v ∧ ss.Perm (strKeys D0) ∧
   w'.ownsRow w.heap.size 9 1 v ss.length ((ss.mergeSort (fun x y => decide (x ≤ y))).map encStr) ∧ (v = .slice none 0 0 ↔ ss = []) ∧ Below w.heap.size w w' := by
 refine (callsIn_wide (n := 5)).1 ?_
 have hseq : SeqGives Fence.wide 2 Tryz.prog 93 #[.pointer (some ⟨B, 0, none⟩)] encStr (fun ss => ss.Perm (strKeys D0)) (Maps.size D0) w :=
  AnyZ.keys_gives (ρ := Tryz.keysB_ren) { Tryz.keysB with } Fence.wide _ trivial rfl (by omega) B b nn D0 w hB hm hown
 exact AnyZ.sorted_in Tryz.sortedA Fence.wide 5 trivial trivial trivial trivial rfl (by omega) (Tryz.sortsA _) (enters_of Tryz.func91 (by kernel_rfl) rfl) 93 #[.pointer (some ⟨B, 0, none⟩)] trivial (enters_of Tryz.func93 (by kernel_rfl) rfl) _ _ hmax hbytes _ hseq
theorem Tryz.sortedS {H : Type} (B b nn : Nat) (D0 : DataW H) (R : Value → Option (DataW H × List MemPlace)) (w : World) (hB : B < w.heap.size) (hm : w.cell? ⟨B, 0, none⟩ = some (.map (some b)))
  (hown : w.ownsMap Tryz.prog 9 R b nn D0) (hmax : Maps.size D0 ≤ maxLen) (hbytes : Maps.size D0 * 16 ≤ 140737488355328) :
  Calls Tryz.prog 75 #[.func (.func 94) #[] #[.pointer (some ⟨B, 0, none⟩)]] w fun e w' => ∃ (v : Value) (ss : List (List UInt8)), e = .returned v ∧ ss.Perm (strKeys D0) ∧
   w'.ownsRow w.heap.size 9 1 v ss.length ((ss.mergeSort (fun x y => decide (x ≤ y))).map encStr) ∧ (v = .slice none 0 0 ↔ ss = []) ∧ Below w.heap.size w w' := by
 refine (callsIn_wide (n := 5)).1 ?_
 have hseq : SeqGives Fence.wide 2 Tryz.prog 94 #[.pointer (some ⟨B, 0, none⟩)] encStr (fun ss => ss.Perm (strKeys D0)) (Maps.size D0) w :=
  AnyZ.keys_gives (ρ := Tryz.keysS_ren) { Tryz.keysS with } Fence.wide _ trivial rfl (by omega) B b nn D0 w hB hm hown
 exact AnyZ.sorted_in Tryz.sortedA Fence.wide 5 trivial trivial trivial trivial rfl (by omega) (Tryz.sortsA _) (enters_of Tryz.func91 (by kernel_rfl) rfl) 94 #[.pointer (some ⟨B, 0, none⟩)] trivial (enters_of Tryz.func94 (by kernel_rfl) rfl) _ _ hmax hbytes _ hseq
end Go.Proofs
namespace Go.Proofs.YtkledlcmhbjadaaGreat
open Go Go.Eng Go.RowKit
def rdAll (_ : Value) : Option (DataW Unit × List MemPlace) := some (.lit (.bool true), [])
theorem key_read {P : Program} (hs : P.underlying 9 = some .string) {s : ByteArray} (hl : s.size ≤ maxLen) : keyOf P 9 (.string s) = some (.string s.data.toList) := by
 simp [keyOf, hs, mapKey, hl]
theorem keys_mem {M : Mem} {v : Kind} : ∀ {xs : List (ByteArray × v.Ty)} {es : List MapEntry}, Z39 M .str v xs es → ∀ e ∈ es, ∃ x ∈ xs, e.key = .string x.1
 | [], [], _, e, he => by cases he
 | x :: xs, m :: es, h, e, he => by
  simp only [Z39] at h
  rcases List.mem_cons.1 he with rfl | he
  · exact ⟨x, List.mem_cons_self, Zb6 h.1⟩
  · obtain ⟨y, h1, h2⟩ := keys_mem h.2.2 e he
    exact ⟨y, List.mem_cons_of_mem _ h1, h2⟩
 | [], _ :: _, h, _, _ => by simp [Z39] at h
 | _ :: _, [], h, _, _ => by simp [Z39] at h
def datumOf (P : Program) (ents : Array MapEntry) : DataW Unit := .map ((ents.toList.map (Go.WideElems.rg P 9 rdAll)).foldr DataW.insert [])
theorem owns_of {P : Program} (hs : P.underlying 9 = some .string) {M : Mem} {w : World} {v : Kind} {xs : List (ByteArray × v.Ty)} {ents : Array MapEntry} {clock b : Nat} (hb : w.heap[b]? = some (.map ents clock)) (he : Z39 M .str v xs ents.toList)
  (hst : MapKept.Stamped ents clock) (hsz : ents.size ≤ maxLen) (hk : ∀ x ∈ xs, x.1.size ≤ maxLen) : w.ownsMap P 9 rdAll b ents.size (datumOf P ents) := by
 refine ⟨ents, clock, hb, ⟨hsz, hst, fun x hx => ?_⟩, Nat.le_refl _, rfl⟩
 obtain ⟨y, h1, h2⟩ := keys_mem he x hx
 exact ⟨(.string y.1.data.toList, .lit (.bool true)), by simp [Go.WideElems.rd, h2, key_read hs (hk y h1), rdAll]⟩
theorem rg_keys {P : Program} (hs : P.underlying 9 = some .string) {M : Mem} {v : Kind} : ∀ {xs : List (ByteArray × v.Ty)} {es : List MapEntry}, Z39 M .str v xs es → (∀ x ∈ xs, x.1.size ≤ maxLen) → (es.map (Go.WideElems.rg P 9 rdAll)).map (fun p => Go.strOf p.1) = xs.map fun x => x.1.data.toList
 | [], [], _, _ => rfl
 | x :: xs, m :: es, h, hk => by
  simp only [Z39] at h
  simp only [List.map_cons]
  rw [rg_keys hs h.2.2 fun y hy => hk y (List.mem_cons_of_mem _ hy)]
  congr 1
  simp [Go.WideElems.rg, Go.WideElems.rd, Zb6 h.1, key_read hs (hk x List.mem_cons_self), rdAll, Go.strOf]
 | [], _ :: _, h, _ => by simp [Z39] at h
 | _ :: _, [], h, _ => by simp [Z39] at h
theorem strKeys_datum {P : Program} (hs : P.underlying 9 = some .string) {M : Mem} {v : Kind} {xs : List (ByteArray × v.Ty)} {ents : Array MapEntry} (he : Z39 M .str v xs ents.toList) (hk : ∀ x ∈ xs, x.1.size ≤ maxLen) :
  (Go.strKeys (datumOf P ents)).Perm (xs.map fun x => x.1.data.toList) := by
 rw [← rg_keys hs he hk]
 exact (Go.WideShapes.sorted_perm _).map _
theorem size_datum {P : Program} {M : Mem} {v : Kind} {xs : List (ByteArray × v.Ty)} {ents : Array MapEntry} (he : Z39 M .str v xs ents.toList) : Maps.size (datumOf P ents) = xs.length := by
 show ((ents.toList.map (Go.WideElems.rg P 9 rdAll)).foldr DataW.insert []).length = xs.length
 rw [(Go.WideShapes.sorted_perm _).length_eq, List.length_map, ← Zd4 he]
end Go.Proofs.YtkledlcmhbjadaaGreat
