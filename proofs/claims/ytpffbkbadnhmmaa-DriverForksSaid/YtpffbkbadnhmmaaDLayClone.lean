/-
 DERIVED: THE SHELF's CONTRACTS AT THIS DUMP, IN PLAIN WORDS (tools/lay-plain.mjs out of 'XLayClone.lean', which tools/lay-shelf.mjs wrote): THE SAME DECLARATIONS UNDER THE SAME NAMES: 'import', 'namespace', 'open', 'def', 'theorem' AND NOTHING ELSE: no command of the shelf's: FOR A HAND-IN. Each laying: the table of numbers ('.._ren') and one theorem, a field a fact of the dump's own or the kernel's comparison; each contract: ONE APPLICATION.
-/
import Derived.Shelf.SlMaps.Clone
import Derived.Ground.SlmcProg
import Derived.Test.YtpffbkbadnhmmaaProg
set_option linter.unusedVariables false
set_option linter.unusedSimpArgs false
namespace Go.Proofs
open Go.Shelf
def Try.clone66_ren : Go.Shelf.Ren := ⟨fun | 5 => 66 | 7 => 95 | n => n, fun | 23 => 97 | 25 => 9 | 3 => 2 | 4 => 4 | 20 => 20 | n => n, fun | n => n⟩
theorem Try.clone66 : Go.Proofs.SlLaysW.n5 Try.prog Try.clone66_ren := {
 mixed := by kernel_rfl
 f5 := ⟨Try.f66.name, by decide, Try.func66.trans (congrArg some (by kernel_rfl))⟩
 f7 := Try.func95.trans (congrArg some (by kernel_rfl))
 t4 := Try.underlying4
 a4 := Try.isAgg4
 z4 := Try.sizeOf4
 v4 := Try.zeroValue4
 t20 := Try.underlying20
 a20 := Try.isAgg20
 z20 := Try.sizeOf20
 v20 := Try.zeroValue20
 t23 := Try.underlying97
 a23 := Try.isAgg97
 z23 := Try.sizeOf97
 v23 := Try.zeroValue97 }
def Try.clone67_ren : Go.Shelf.Ren := ⟨fun | 5 => 67 | 7 => 95 | n => n, fun | 23 => 98 | 25 => 9 | 3 => 112 | 4 => 4 | 20 => 20 | n => n, fun | n => n⟩
theorem Try.clone67 : Go.Proofs.SlLaysW.n5 Try.prog Try.clone67_ren := {
 mixed := by kernel_rfl
 f5 := ⟨Try.f67.name, by decide, Try.func67.trans (congrArg some (by kernel_rfl))⟩
 f7 := Try.func95.trans (congrArg some (by kernel_rfl))
 t4 := Try.underlying4
 a4 := Try.isAgg4
 z4 := Try.sizeOf4
 v4 := Try.zeroValue4
 t20 := Try.underlying20
 a20 := Try.isAgg20
 z20 := Try.sizeOf20
 v20 := Try.zeroValue20
 t23 := Try.underlying98
 a23 := Try.isAgg98
 z23 := Try.sizeOf98
 v23 := Try.zeroValue98 }
def Try.clone68_ren : Go.Shelf.Ren := ⟨fun | 5 => 68 | 7 => 95 | n => n, fun | 23 => 99 | 25 => 9 | 3 => 120 | 4 => 4 | 20 => 20 | n => n, fun | n => n⟩
theorem Try.clone68 : Go.Proofs.SlLaysW.n5 Try.prog Try.clone68_ren := {
 mixed := by kernel_rfl
 f5 := ⟨Try.f68.name, by decide, Try.func68.trans (congrArg some (by kernel_rfl))⟩
 f7 := Try.func95.trans (congrArg some (by kernel_rfl))
 t4 := Try.underlying4
 a4 := Try.isAgg4
 z4 := Try.sizeOf4
 v4 := Try.zeroValue4
 t20 := Try.underlying20
 a20 := Try.isAgg20
 z20 := Try.sizeOf20
 v20 := Try.zeroValue20
 t23 := Try.underlying99
 a23 := Try.isAgg99
 z23 := Try.sizeOf99
 v23 := Try.zeroValue99 }
def Try.clone69_ren : Go.Shelf.Ren := ⟨fun | 5 => 69 | 7 => 95 | n => n, fun | 23 => 100 | 25 => 122 | 3 => 125 | 4 => 4 | 20 => 20 | n => n, fun | n => n⟩
theorem Try.clone69 : Go.Proofs.SlLaysW.n5 Try.prog Try.clone69_ren := {
 mixed := by kernel_rfl
 f5 := ⟨Try.f69.name, by decide, Try.func69.trans (congrArg some (by kernel_rfl))⟩
 f7 := Try.func95.trans (congrArg some (by kernel_rfl))
 t4 := Try.underlying4
 a4 := Try.isAgg4
 z4 := Try.sizeOf4
 v4 := Try.zeroValue4
 t20 := Try.underlying20
 a20 := Try.isAgg20
 z20 := Try.sizeOf20
 v20 := Try.zeroValue20
 t23 := Try.underlying100
 a23 := Try.isAgg100
 z23 := Try.sizeOf100
 v23 := Try.zeroValue100 }
def Try.clone70_ren : Go.Shelf.Ren := ⟨fun | 5 => 70 | 7 => 95 | n => n, fun | 23 => 110 | 25 => 9 | 3 => 4 | 4 => 4 | 20 => 20 | n => n, fun | n => n⟩
theorem Try.clone70 : Go.Proofs.SlLaysW.n5 Try.prog Try.clone70_ren := {
 mixed := by kernel_rfl
 f5 := ⟨Try.f70.name, by decide, Try.func70.trans (congrArg some (by kernel_rfl))⟩
 f7 := Try.func95.trans (congrArg some (by kernel_rfl))
 t4 := Try.underlying4
 a4 := Try.isAgg4
 z4 := Try.sizeOf4
 v4 := Try.zeroValue4
 t20 := Try.underlying20
 a20 := Try.isAgg20
 z20 := Try.sizeOf20
 v20 := Try.zeroValue20
 t23 := Try.underlying110
 a23 := Try.isAgg110
 z23 := Try.sizeOf110
 v23 := Try.zeroValue110 }
end Go.Proofs
