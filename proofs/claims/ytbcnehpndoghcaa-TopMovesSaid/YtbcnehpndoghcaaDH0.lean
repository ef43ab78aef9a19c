/- Attach: by hand: the inserts as facts; the middle of two; the cells of an object. -/
import Derived.Test.YtbcnehpndoghcaaDIns2
import Derived.Test.YtbcnehpndoghcaaEE
set_option linter.unusedVariables false
set_option linter.unusedSimpArgs false
set_option maxRecDepth 100000
namespace Go.Proofs.Ytbcnehpndoghcaa
open Go Go.Eng
noncomputable def insO_fact : Fact Try.prog := { f := 62, K := insK .obj 192, ent := ent_of (fn := Try.f62) (c := bodyOf Try.f62) (by kernel_rfl) rfl (by kernel_rfl), ok := fun _ _ _ _ _ _ hK hn => insertO_sound hK hn }
noncomputable def insS_fact : Fact Try.prog := { f := 59, K := insK .str 16, ent := ent_of (fn := Try.f59) (c := bodyOf Try.f59) (by kernel_rfl) rfl (by kernel_rfl), ok := fun _ _ _ _ _ _ hK hn => insertS_sound hK hn }
theorem mid_eq {i j : Int} (h0 : 0 ≤ i) (h1 : i < j) (h2 : j ≤ 4611686018427387904) : IntKind.i64.wrap (IntKind.u64.wrap (IntKind.i64.wrap (i + j)) / 2) = (i + j) / 2 ∧ IntKind.i64.wrap ((i + j) / 2 + 1) = (i + j) / 2 + 1 := by
  have e1 : IntKind.i64.wrap (i + j) = i + j := by rw [IntKind.wrap_i64]; omega
  have e2 : IntKind.u64.wrap (i + j) = i + j := by rw [IntKind.wrap_u64]; omega
  rw [e1, e2]
  constructor <;> (rw [IntKind.wrap_i64]; omega)
def oc (x : XObj) : List AV := [.int .u8 x.kind, .str x.name, .int .u64 x.version, .int .u64 x.born, .bool x.deleting, .bool x.hold, .str x.cls, .int .i64 x.size, .int .i64 x.got, .int .u8 x.mode, .bool x.keep, .bool x.wait, .str x.zone, .str x.node, .str x.claim, .str x.volume, .str x.source, .int .u8 x.phase, .int .u64 x.num, .int .u64 x.tag]
def cc (x : XCall) : List AV := [.int .u8 x.verb, .str x.target, .int .u64 x.num, .int .i64 x.size, .str x.zone, .str x.node, .str x.source]
def ac (x : XAct) : List AV := [.int .u8 x.act, .int .u8 x.obj.kind, .str x.obj.name, .int .u64 x.obj.version, .int .u64 x.obj.born, .bool x.obj.deleting, .bool x.obj.hold, .str x.obj.cls, .int .i64 x.obj.size, .int .i64 x.obj.got, .int .u8 x.obj.mode, .bool x.obj.keep, .bool x.obj.wait, .str x.obj.zone, .str x.obj.node, .str x.obj.claim, .str x.obj.volume, .str x.obj.source, .int .u8 x.obj.phase, .int .u64 x.obj.num, .int .u64 x.obj.tag, .int .u8 x.call.verb, .str x.call.target, .int .u64 x.call.num, .int .i64 x.call.size, .str x.call.zone, .str x.call.node, .str x.call.source]
end Go.Proofs.Ytbcnehpndoghcaa
