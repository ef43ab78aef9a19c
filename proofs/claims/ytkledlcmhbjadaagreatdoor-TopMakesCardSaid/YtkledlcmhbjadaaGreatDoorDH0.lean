/- The driver: by hand: lists. -/
import Derived.Test.YtkledlcmhbjadaaGreatDoorEE
import Derived.Test.YtkledlcmhbjadaaGreatDoorDFmt
import Derived.Test.YtkledlcmhbjadaaGreatDoorProg
set_option linter.unusedVariables false
set_option linter.unusedSimpArgs false
set_option maxRecDepth 100000
namespace Go.Proofs.YtkledlcmhbjadaaGreatDoor
open Go Go.Eng
theorem Z33 {α : Type} [Inhabited α] {l : List α} {i : Nat} (h : i < l.length) : l.getD i default ∈ l := by
 rw [List.getD_eq_getElem?_getD, List.getElem?_eq_getElem h]
 exact List.getElem_mem h
def CS (c : XCall) : Prop := c.target.size < 4611686018427387904 ∧ c.zone.size < 4611686018427387904 ∧ c.node.size < 4611686018427387904 ∧ c.source.size < 4611686018427387904
def oM (a : List (ByteArray × Int)) (b : List (ByteArray × XVn)) (c : List (ByteArray × XSn)) (d : List (XTgt × XDone)) (t : List AObj) : List AObj := .map ⟨.str, .int .i64, a⟩ :: .vols b none :: .map ⟨.str, .sn, c⟩ :: .map ⟨.tgt, .done, d⟩ :: t
def oV (a : List XZone) (b : List XVol) (c : List XSnap) (d : List XDone) (t : List AObj) : List AObj := .vec false ⟨.zone, a⟩ :: .vec false ⟨.vol, b⟩ :: .vec false ⟨.snap, c⟩ :: .vec false ⟨.done, d⟩ :: t
end Go.Proofs.YtkledlcmhbjadaaGreatDoor
