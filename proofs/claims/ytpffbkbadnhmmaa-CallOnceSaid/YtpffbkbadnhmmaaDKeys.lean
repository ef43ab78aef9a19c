/- The driver: by hand: the sorted keys of a map. -/
import Derived.Shelf.SlIter.Nil
import Derived.Shelf.SlIter.Sorted
import Derived.Shelf.SortM.Plain
import Derived.Shelf.SortM.SortNone
import Derived.Maps.Own
import Derived.Test.YtpffbkbadnhmmaaDH0
set_option linter.unusedVariables false
set_option linter.unusedSimpArgs false
set_option maxRecDepth 100000
namespace Go.Proofs
open Go.RowKit Go.Maps Go.Sort Go.Shelf
def Try.keysV_ren : Go.Shelf.Ren := ⟨fun | 7 => 84 | 10 => 103 | n => n, fun | 23 => 98 | 26 => 9 | 3 => 112 | 28 => 147 | 0 => 0 | 27 => 146 | 33 => 103 | 4 => 4 | n => n, fun | n => n⟩
theorem Try.keysV : Go.Proofs.SlLaysZ.n7 Try.prog Try.keysV_ren := {
 mixed := by kernel_rfl
 f7 := ⟨Try.f84.name, by decide, Try.func84.trans (congrArg some (by kernel_rfl))⟩
 f10 := ⟨Try.f103.name, by decide, Try.func103.trans (congrArg some (by kernel_rfl))⟩
 t0 := Try.underlying0
 a0 := Try.isAgg0
 z0 := Try.sizeOf0
 v0 := Try.zeroValue0
 t4 := Try.underlying4
 a4 := Try.isAgg4
 z4 := Try.sizeOf4
 v4 := Try.zeroValue4
 t23 := Try.underlying98
 a23 := Try.isAgg98
 z23 := Try.sizeOf98
 v23 := Try.zeroValue98
 t26 := Try.underlying9
 a26 := Try.isAgg9
 z26 := Try.sizeOf9
 v26 := Try.zeroValue9
 t27 := Try.underlying146
 a27 := Try.isAgg146
 z27 := Try.sizeOf146
 v27 := Try.zeroValue146
 t28 := Try.underlying147
 a28 := Try.isAgg147
 z28 := Try.sizeOf147
 v28 := Try.zeroValue147
 t33 := Try.underlying103
 a33 := Try.isAgg103
 z33 := Try.sizeOf103
 v33 := Try.zeroValue103 }
def Try.keysB_ren : Go.Shelf.Ren := ⟨fun | 7 => 86 | 10 => 104 | n => n, fun | 23 => 110 | 26 => 9 | 3 => 4 | 28 => 147 | 0 => 0 | 27 => 146 | 33 => 103 | 4 => 4 | n => n, fun | n => n⟩
theorem Try.keysB : Go.Proofs.SlLaysZ.n7 Try.prog Try.keysB_ren := {
 mixed := by kernel_rfl
 f7 := ⟨Try.f86.name, by decide, Try.func86.trans (congrArg some (by kernel_rfl))⟩
 f10 := ⟨Try.f104.name, by decide, Try.func104.trans (congrArg some (by kernel_rfl))⟩
 t0 := Try.underlying0
 a0 := Try.isAgg0
 z0 := Try.sizeOf0
 v0 := Try.zeroValue0
 t4 := Try.underlying4
 a4 := Try.isAgg4
 z4 := Try.sizeOf4
 v4 := Try.zeroValue4
 t23 := Try.underlying110
 a23 := Try.isAgg110
 z23 := Try.sizeOf110
 v23 := Try.zeroValue110
 t26 := Try.underlying9
 a26 := Try.isAgg9
 z26 := Try.sizeOf9
 v26 := Try.zeroValue9
 t27 := Try.underlying146
 a27 := Try.isAgg146
 z27 := Try.sizeOf146
 v27 := Try.zeroValue146
 t28 := Try.underlying147
 a28 := Try.isAgg147
 z28 := Try.sizeOf147
 v28 := Try.zeroValue147
 t33 := Try.underlying103
 a33 := Try.isAgg103
 z33 := Try.sizeOf103
 v33 := Try.zeroValue103 }
def Try.keysS_ren : Go.Shelf.Ren := ⟨fun | 7 => 88 | 10 => 105 | n => n, fun | 23 => 99 | 26 => 9 | 3 => 120 | 28 => 147 | 0 => 0 | 27 => 146 | 33 => 103 | 4 => 4 | n => n, fun | n => n⟩
theorem Try.keysS : Go.Proofs.SlLaysZ.n7 Try.prog Try.keysS_ren := {
 mixed := by kernel_rfl
 f7 := ⟨Try.f88.name, by decide, Try.func88.trans (congrArg some (by kernel_rfl))⟩
 f10 := ⟨Try.f105.name, by decide, Try.func105.trans (congrArg some (by kernel_rfl))⟩
 t0 := Try.underlying0
 a0 := Try.isAgg0
 z0 := Try.sizeOf0
 v0 := Try.zeroValue0
 t4 := Try.underlying4
 a4 := Try.isAgg4
 z4 := Try.sizeOf4
 v4 := Try.zeroValue4
 t23 := Try.underlying99
 a23 := Try.isAgg99
 z23 := Try.sizeOf99
 v23 := Try.zeroValue99
 t26 := Try.underlying9
 a26 := Try.isAgg9
 z26 := Try.sizeOf9
 v26 := Try.zeroValue9
 t27 := Try.underlying146
 a27 := Try.isAgg146
 z27 := Try.sizeOf146
 v27 := Try.zeroValue146
 t28 := Try.underlying147
 a28 := Try.isAgg147
 z28 := Try.sizeOf147
 v28 := Try.zeroValue147
 t33 := Try.underlying103
 a33 := Try.isAgg103
 z33 := Try.sizeOf103
 v33 := Try.zeroValue103 }
def Try.sortedA_ren : Go.Shelf.Ren := ⟨fun | 6 => 83 | 8 => 101 | 9 => 102 | 11 => 115 | 13 => 117 | 12 => 116 | 23 => 127 | 24 => 128 | 14 => 118 | 15 => 119 | 16 => 120 | 17 => 121 | 18 => 122 | 19 => 123 | 20 => 124 | 21 => 125 | 22 => 126 | 25 => 129 | 26 => 130 | 27 => 131 | 28 => 132 | 29 => 133 | 30 => 134 | 31 => 135 | n => n, fun | 26 => 9 | 28 => 147 | 24 => 43 | 0 => 0 | 3 => 3 | 37 => 172 | 48 => 183 | 50 => 42 | 4 => 4 | 40 => 175 | 39 => 174 | 45 => 180 | 5 => 5 | 9 => 9 | 51 => 185 | 55 => 189 | 57 => 191 | 58 => 192 | 33 => 103 | n => n, fun | n => n⟩
theorem Try.sortedA : Go.Proofs.SlLaysZ.n6 Try.prog Try.sortedA_ren := {
 mixed := by kernel_rfl
 f6 := ⟨Try.f83.name, by decide, Try.func83.trans (congrArg some (by kernel_rfl))⟩
 f8 := ⟨Try.f101.name, by decide, Try.func101.trans (congrArg some (by kernel_rfl))⟩
 f11 := ⟨Try.f115.name, by decide, Try.func115.trans (congrArg some (by kernel_rfl))⟩
 t0 := Try.underlying0
 a0 := Try.isAgg0
 z0 := Try.sizeOf0
 v0 := Try.zeroValue0
 t24 := Try.underlying43
 a24 := Try.isAgg43
 z24 := Try.sizeOf43
 v24 := Try.zeroValue43
 t26 := Try.underlying9
 a26 := Try.isAgg9
 z26 := Try.sizeOf9
 v26 := Try.zeroValue9
 t28 := Try.underlying147
 a28 := Try.isAgg147
 z28 := Try.sizeOf147
 v28 := Try.zeroValue147
 i26 := by kernel_rfl }
def Try.sortA_ren : Go.Shelf.Ren := ⟨fun | 6 => 102 | 8 => 117 | 9 => 116 | 19 => 127 | 20 => 128 | 21 => 118 | 22 => 119 | 23 => 120 | 24 => 121 | 25 => 122 | 26 => 123 | 27 => 124 | 28 => 125 | 29 => 126 | 36 => 129 | 31 => 130 | 32 => 131 | 37 => 132 | 38 => 133 | 39 => 134 | 41 => 135 | n => n, fun | 27 => 43 | 29 => 9 | 3 => 3 | 32 => 172 | 26 => 43 | 0 => 0 | 44 => 183 | 46 => 42 | 4 => 4 | 36 => 175 | 35 => 174 | 41 => 180 | 5 => 5 | 9 => 9 | 53 => 185 | 57 => 189 | 63 => 191 | 64 => 192 | n => n, fun | n => n⟩
theorem Try.sortA : Go.Proofs.SlLaysM.n6 Try.prog Try.sortA_ren := {
 mixed := by kernel_rfl
 f6 := ⟨Try.f102.name, by decide, Try.func102.trans (congrArg some (by kernel_rfl))⟩
 f8 := Try.func117.trans (congrArg some (by kernel_rfl))
 f9 := ⟨Try.f116.name, by decide, Try.func116.trans (congrArg some (by kernel_rfl))⟩
 f19 := Try.func127.trans (congrArg some (by kernel_rfl))
 f20 := Try.func128.trans (congrArg some (by kernel_rfl))
 f21 := ⟨Try.f118.name, by decide, Try.func118.trans (congrArg some (by kernel_rfl))⟩
 f22 := ⟨Try.f119.name, by decide, Try.func119.trans (congrArg some (by kernel_rfl))⟩
 f23 := ⟨Try.f120.name, by decide, Try.func120.trans (congrArg some (by kernel_rfl))⟩
 f24 := ⟨Try.f121.name, by decide, Try.func121.trans (congrArg some (by kernel_rfl))⟩
 f25 := ⟨Try.f122.name, by decide, Try.func122.trans (congrArg some (by kernel_rfl))⟩
 f26 := ⟨Try.f123.name, by decide, Try.func123.trans (congrArg some (by kernel_rfl))⟩
 f27 := ⟨Try.f124.name, by decide, Try.func124.trans (congrArg some (by kernel_rfl))⟩
 f28 := ⟨Try.f125.name, by decide, Try.func125.trans (congrArg some (by kernel_rfl))⟩
 f29 := ⟨Try.f126.name, by decide, Try.func126.trans (congrArg some (by kernel_rfl))⟩
 f31 := Try.func130.trans (congrArg some (by kernel_rfl))
 f32 := Try.func131.trans (congrArg some (by kernel_rfl))
 f36 := ⟨Try.f129.name, by decide, Try.func129.trans (congrArg some (by kernel_rfl))⟩
 f37 := ⟨Try.f132.name, by decide, Try.func132.trans (congrArg some (by kernel_rfl))⟩
 f38 := ⟨Try.f133.name, by decide, Try.func133.trans (congrArg some (by kernel_rfl))⟩
 f39 := ⟨Try.f134.name, by decide, Try.func134.trans (congrArg some (by kernel_rfl))⟩
 f41 := ⟨Try.f135.name, by decide, Try.func135.trans (congrArg some (by kernel_rfl))⟩
 t0 := Try.underlying0
 a0 := Try.isAgg0
 z0 := Try.sizeOf0
 v0 := Try.zeroValue0
 t3 := Try.underlying3
 a3 := Try.isAgg3
 z3 := Try.sizeOf3
 v3 := Try.zeroValue3
 t4 := Try.underlying4
 a4 := Try.isAgg4
 z4 := Try.sizeOf4
 v4 := Try.zeroValue4
 t5 := Try.underlying5
 a5 := Try.isAgg5
 z5 := Try.sizeOf5
 v5 := Try.zeroValue5
 t9 := Try.underlying9
 a9 := Try.isAgg9
 z9 := Try.sizeOf9
 v9 := Try.zeroValue9
 t26 := Try.underlying43
 a26 := Try.isAgg43
 z26 := Try.sizeOf43
 v26 := Try.zeroValue43
 t27 := Try.underlying43
 a27 := Try.isAgg43
 z27 := Try.sizeOf43
 v27 := Try.zeroValue43
 t29 := Try.underlying9
 a29 := Try.isAgg9
 z29 := Try.sizeOf9
 v29 := Try.zeroValue9
 t32 := Try.underlying172
 a32 := Try.isAgg172
 z32 := Try.sizeOf172
 v32 := Try.zeroValue172
 t35 := Try.underlying174
 a35 := Try.isAgg174
 z35 := Try.sizeOf174
 v35 := Try.zeroValue174
 t36 := Try.underlying175
 a36 := Try.isAgg175
 z36 := Try.sizeOf175
 v36 := Try.zeroValue175
 t41 := Try.underlying180
 a41 := Try.isAgg180
 z41 := Try.sizeOf180
 v41 := Try.zeroValue180
 t44 := Try.underlying183
 a44 := Try.isAgg183
 z44 := Try.sizeOf183
 v44 := Try.zeroValue183
 t46 := Try.underlying42
 a46 := Try.isAgg42
 z46 := Try.sizeOf42
 v46 := Try.zeroValue42
 t53 := Try.underlying185
 a53 := Try.isAgg185
 z53 := Try.sizeOf185
 v53 := Try.zeroValue185
 t57 := Try.underlying189
 a57 := Try.isAgg189
 z57 := Try.sizeOf189
 v57 := Try.zeroValue189
 t63 := Try.underlying191
 a63 := Try.isAgg191
 z63 := Try.sizeOf191
 v63 := Try.zeroValue191
 t64 := Try.underlying192
 a64 := Try.isAgg192
 z64 := Try.sizeOf192
 v64 := Try.zeroValue192 }
theorem Try.sortsA (m : Nat) : AnyZ.SortsIn Try.prog Try.sortedA_ren Fence.wide m :=
 ⟨fun blk off cap ss W hH hblk hsz => callsIn_wide.2 (AnyM.slices_Sort_string Try.sortA blk off cap ss W hH hblk hsz),
  fun p cap W => callsIn_wide.2 (AnyM.slices_Sort_string_none Try.sortA p cap W)⟩
theorem Try.sortedV {H : Type} (B b nn : Nat) (D0 : DataW H) (R : Value → Option (DataW H × List MemPlace)) (w : World) (hB : B < w.heap.size) (hm : w.cell? ⟨B, 0, none⟩ = some (.map (some b)))
  (hown : w.ownsMap Try.prog 9 R b nn D0) (hmax : Maps.size D0 ≤ maxLen) (hbytes : Maps.size D0 * 16 ≤ 140737488355328) :
  Calls Try.prog 83 #[.func (.func 103) #[] #[.pointer (some ⟨B, 0, none⟩)]] w fun e w' => ∃ (v : Value) (ss : List (List UInt8)), e = .returned v ∧ ss.Perm (strKeys D0) ∧
   w'.ownsRow w.heap.size 9 1 v ss.length ((ss.mergeSort (fun x y => decide (x ≤ y))).map encStr) ∧ (v = .slice none 0 0 ↔ ss = []) ∧ Below w.heap.size w w' := by
 refine (callsIn_wide (n := 5)).1 ?_
 have hseq : SeqGives Fence.wide 2 Try.prog 103 #[.pointer (some ⟨B, 0, none⟩)] encStr (fun ss => ss.Perm (strKeys D0)) (Maps.size D0) w :=
  AnyZ.keys_gives (ρ := Try.keysV_ren) { Try.keysV with } Fence.wide _ trivial rfl (by omega) B b nn D0 w hB hm hown
 exact AnyZ.sorted_in Try.sortedA Fence.wide 5 trivial trivial trivial trivial rfl (by omega) (Try.sortsA _) (enters_of Try.func102 (by kernel_rfl) rfl) 103 #[.pointer (some ⟨B, 0, none⟩)] trivial (enters_of Try.func103 (by kernel_rfl) rfl) _ _ hmax hbytes _ hseq
theorem Try.sortedB {H : Type} (B b nn : Nat) (D0 : DataW H) (R : Value → Option (DataW H × List MemPlace)) (w : World) (hB : B < w.heap.size) (hm : w.cell? ⟨B, 0, none⟩ = some (.map (some b)))
  (hown : w.ownsMap Try.prog 9 R b nn D0) (hmax : Maps.size D0 ≤ maxLen) (hbytes : Maps.size D0 * 16 ≤ 140737488355328) :
  Calls Try.prog 83 #[.func (.func 104) #[] #[.pointer (some ⟨B, 0, none⟩)]] w fun e w' => ∃ (v : Value) (ss : List (List UInt8)), e = .returned v ∧ ss.Perm (strKeys D0) ∧
   w'.ownsRow w.heap.size 9 1 v ss.length ((ss.mergeSort (fun x y => decide (x ≤ y))).map encStr) ∧ (v = .slice none 0 0 ↔ ss = []) ∧ Below w.heap.size w w' := by
 refine (callsIn_wide (n := 5)).1 ?_
 have hseq : SeqGives Fence.wide 2 Try.prog 104 #[.pointer (some ⟨B, 0, none⟩)] encStr (fun ss => ss.Perm (strKeys D0)) (Maps.size D0) w :=
  AnyZ.keys_gives (ρ := Try.keysB_ren) { Try.keysB with } Fence.wide _ trivial rfl (by omega) B b nn D0 w hB hm hown
 exact AnyZ.sorted_in Try.sortedA Fence.wide 5 trivial trivial trivial trivial rfl (by omega) (Try.sortsA _) (enters_of Try.func102 (by kernel_rfl) rfl) 104 #[.pointer (some ⟨B, 0, none⟩)] trivial (enters_of Try.func104 (by kernel_rfl) rfl) _ _ hmax hbytes _ hseq
theorem Try.sortedS {H : Type} (B b nn : Nat) (D0 : DataW H) (R : Value → Option (DataW H × List MemPlace)) (w : World) (hB : B < w.heap.size) (hm : w.cell? ⟨B, 0, none⟩ = some (.map (some b)))
  (hown : w.ownsMap Try.prog 9 R b nn D0) (hmax : Maps.size D0 ≤ maxLen) (hbytes : Maps.size D0 * 16 ≤ 140737488355328) :
  Calls Try.prog 83 #[.func (.func 105) #[] #[.pointer (some ⟨B, 0, none⟩)]] w fun e w' => ∃ (v : Value) (ss : List (List UInt8)), e = .returned v ∧ ss.Perm (strKeys D0) ∧
   w'.ownsRow w.heap.size 9 1 v ss.length ((ss.mergeSort (fun x y => decide (x ≤ y))).map encStr) ∧ (v = .slice none 0 0 ↔ ss = []) ∧ Below w.heap.size w w' := by
 refine (callsIn_wide (n := 5)).1 ?_
 have hseq : SeqGives Fence.wide 2 Try.prog 105 #[.pointer (some ⟨B, 0, none⟩)] encStr (fun ss => ss.Perm (strKeys D0)) (Maps.size D0) w :=
  AnyZ.keys_gives (ρ := Try.keysS_ren) { Try.keysS with } Fence.wide _ trivial rfl (by omega) B b nn D0 w hB hm hown
 exact AnyZ.sorted_in Try.sortedA Fence.wide 5 trivial trivial trivial trivial rfl (by omega) (Try.sortsA _) (enters_of Try.func102 (by kernel_rfl) rfl) 105 #[.pointer (some ⟨B, 0, none⟩)] trivial (enters_of Try.func105 (by kernel_rfl) rfl) _ _ hmax hbytes _ hseq
end Go.Proofs
namespace Go.Proofs.Ytpffbkbadnhmmaa
open Go Go.Eng Go.RowKit
def rdAll (_ : Value) : Option (DataW Unit × List MemPlace) := some (.lit (.bool true), [])
theorem key_read {P : Program} (hs : P.underlying 9 = some .string) {s : ByteArray} (hl : s.size ≤ maxLen) : keyOf P 9 (.string s) = some (.string s.data.toList) := by
 simp [keyOf, hs, mapKey, hl]
theorem keys_mem {M : Mem} {v : Kind} : ∀ {xs : List (ByteArray × v.Ty)} {es : List MapEntry}, Z36 M .str v xs es → ∀ e ∈ es, ∃ x ∈ xs, e.key = .string x.1
 | [], [], _, e, he => by cases he
 | x :: xs, m :: es, h, e, he => by
  simp only [Z36] at h
  rcases List.mem_cons.1 he with rfl | he
  · exact ⟨x, List.mem_cons_self, Zb4 h.1⟩
  · obtain ⟨y, h1, h2⟩ := keys_mem h.2.2 e he
    exact ⟨y, List.mem_cons_of_mem _ h1, h2⟩
 | [], _ :: _, h, _, _ => by simp [Z36] at h
 | _ :: _, [], h, _, _ => by simp [Z36] at h
def datumOf (P : Program) (ents : Array MapEntry) : DataW Unit := .map ((ents.toList.map (Go.WideElems.rg P 9 rdAll)).foldr DataW.insert [])
theorem owns_of {P : Program} (hs : P.underlying 9 = some .string) {M : Mem} {w : World} {v : Kind} {xs : List (ByteArray × v.Ty)} {ents : Array MapEntry} {clock b : Nat} (hb : w.heap[b]? = some (.map ents clock)) (he : Z36 M .str v xs ents.toList)
  (hst : MapKept.Stamped ents clock) (hsz : ents.size ≤ maxLen) (hk : ∀ x ∈ xs, x.1.size ≤ maxLen) : w.ownsMap P 9 rdAll b ents.size (datumOf P ents) := by
 refine ⟨ents, clock, hb, ⟨hsz, hst, fun x hx => ?_⟩, Nat.le_refl _, rfl⟩
 obtain ⟨y, h1, h2⟩ := keys_mem he x hx
 exact ⟨(.string y.1.data.toList, .lit (.bool true)), by simp [Go.WideElems.rd, h2, key_read hs (hk y h1), rdAll]⟩
theorem rg_keys {P : Program} (hs : P.underlying 9 = some .string) {M : Mem} {v : Kind} : ∀ {xs : List (ByteArray × v.Ty)} {es : List MapEntry}, Z36 M .str v xs es → (∀ x ∈ xs, x.1.size ≤ maxLen) → (es.map (Go.WideElems.rg P 9 rdAll)).map (fun p => Go.strOf p.1) = xs.map fun x => x.1.data.toList
 | [], [], _, _ => rfl
 | x :: xs, m :: es, h, hk => by
  simp only [Z36] at h
  simp only [List.map_cons]
  rw [rg_keys hs h.2.2 fun y hy => hk y (List.mem_cons_of_mem _ hy)]
  congr 1
  simp [Go.WideElems.rg, Go.WideElems.rd, Zb4 h.1, key_read hs (hk x List.mem_cons_self), rdAll, Go.strOf]
 | [], _ :: _, h, _ => by simp [Z36] at h
 | _ :: _, [], h, _ => by simp [Z36] at h
theorem strKeys_datum {P : Program} (hs : P.underlying 9 = some .string) {M : Mem} {v : Kind} {xs : List (ByteArray × v.Ty)} {ents : Array MapEntry} (he : Z36 M .str v xs ents.toList) (hk : ∀ x ∈ xs, x.1.size ≤ maxLen) :
  (Go.strKeys (datumOf P ents)).Perm (xs.map fun x => x.1.data.toList) := by
 rw [← rg_keys hs he hk]
 exact (Go.WideShapes.sorted_perm _).map _
theorem size_datum {P : Program} {M : Mem} {v : Kind} {xs : List (ByteArray × v.Ty)} {ents : Array MapEntry} (he : Z36 M .str v xs ents.toList) : Maps.size (datumOf P ents) = xs.length := by
 show ((ents.toList.map (Go.WideElems.rg P 9 rdAll)).foldr DataW.insert []).length = xs.length
 rw [(Go.WideShapes.sorted_perm _).length_eq, List.length_map, ← Zd1 he]
end Go.Proofs.Ytpffbkbadnhmmaa
