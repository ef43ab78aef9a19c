/- The driver: by hand: lists. -/
import Derived.Test.YtkledlcmhbjadaaGreatEE
import Derived.Test.YtkledlcmhbjadaaGreatProg
set_option linter.unusedVariables false
set_option linter.unusedSimpArgs false
set_option maxRecDepth 100000
namespace Go.Proofs.YtkledlcmhbjadaaGreat
open Go Go.Eng
theorem Z172 {α : Type} [Inhabited α] {l : List α} {i : Nat} (h : i < l.length) : l.getD i default ∈ l := by
 rw [List.getD_eq_getElem?_getD, List.getElem?_eq_getElem h]
 exact List.getElem_mem h
def CS (c : XCall) : Prop := c.target.size < 4611686018427387904 ∧ c.zone.size < 4611686018427387904 ∧ c.node.size < 4611686018427387904 ∧ c.source.size < 4611686018427387904
def oM (a : LA) (b : LB) (c : LC) (d : LD) (t : List AObj) : List AObj := .map ⟨.str, .int .i64, a⟩ :: .vols b none :: .map ⟨.str, .sn, c⟩ :: .map ⟨.tgt, .done, d⟩ :: t
def oV (a : LZ) (b : LV) (c : LS) (d : LQ) (t : List AObj) : List AObj := .vec false ⟨.zone, a⟩ :: .vec false ⟨.vol, b⟩ :: .vec false ⟨.snap, c⟩ :: .vec false ⟨.done, d⟩ :: t
def cc (x : XCall) : List AV := [.int .u8 x.verb, .str x.target, .int .u64 x.num, .int .i64 x.size, .str x.zone, .str x.node, .str x.source]
end Go.Proofs.YtkledlcmhbjadaaGreat
