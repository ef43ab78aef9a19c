/- Attach: what is made by default; names. -/
import Derived.Test.YtbcnehpndoghcaaDH2
import Derived.Test.YtbcnehpndoghcaaDAtt
set_option linter.unusedVariables false
set_option linter.unusedSimpArgs false
set_option maxRecDepth 100000
namespace Go.Proofs.Ytbcnehpndoghcaa
open Go Go.Eng
noncomputable def E_object_Default : Env := envOf (P := Try.prog) [attF_fact] [] [] ckf
def object_DefaultF (a0 : XObj) : XObj :=
  cond (a0.phase == (0 : Int))
    (cond (a0.kind == (3 : Int))
      (cond (cond (a0.mode == (0 : Int)) (cond (a0.kind == (3 : Int)) true (a0.kind == (4 : Int))) false)
          (cond (cond (a0.kind == (4 : Int)) (a0.got == (0 : Int)) false)
            (cond (cond (a0.kind == (5 : Int)) (decide (a0.name = (⟨#[]⟩ : ByteArray))) false)
              ({ a0 with name := attF a0.volume a0.node, hold := cond (cond (cond a0.hold true (a0.kind == (3 : Int))) true (a0.kind == (4 : Int))) true (a0.kind == (7 : Int)), got := a0.size, mode := (1 : Int), phase := (1 : Int) } : XObj)
              ({ a0 with hold := cond (cond (cond a0.hold true (a0.kind == (3 : Int))) true (a0.kind == (4 : Int))) true (a0.kind == (7 : Int)), got := a0.size, mode := (1 : Int), phase := (1 : Int) } : XObj))
            (cond (cond (a0.kind == (5 : Int)) (decide (a0.name = (⟨#[]⟩ : ByteArray))) false)
              ({ a0 with name := attF a0.volume a0.node, hold := cond (cond (cond a0.hold true (a0.kind == (3 : Int))) true (a0.kind == (4 : Int))) true (a0.kind == (7 : Int)), mode := (1 : Int), phase := (1 : Int) } : XObj)
              ({ a0 with hold := cond (cond (cond a0.hold true (a0.kind == (3 : Int))) true (a0.kind == (4 : Int))) true (a0.kind == (7 : Int)), mode := (1 : Int), phase := (1 : Int) } : XObj)))
          (cond (cond (a0.kind == (4 : Int)) (a0.got == (0 : Int)) false)
            (cond (cond (a0.kind == (5 : Int)) (decide (a0.name = (⟨#[]⟩ : ByteArray))) false)
              ({ a0 with name := attF a0.volume a0.node, hold := cond (cond (cond a0.hold true (a0.kind == (3 : Int))) true (a0.kind == (4 : Int))) true (a0.kind == (7 : Int)), got := a0.size, phase := (1 : Int) } : XObj)
              ({ a0 with hold := cond (cond (cond a0.hold true (a0.kind == (3 : Int))) true (a0.kind == (4 : Int))) true (a0.kind == (7 : Int)), got := a0.size, phase := (1 : Int) } : XObj))
            (cond (cond (a0.kind == (5 : Int)) (decide (a0.name = (⟨#[]⟩ : ByteArray))) false)
              ({ a0 with name := attF a0.volume a0.node, hold := cond (cond (cond a0.hold true (a0.kind == (3 : Int))) true (a0.kind == (4 : Int))) true (a0.kind == (7 : Int)), phase := (1 : Int) } : XObj)
              ({ a0 with hold := cond (cond (cond a0.hold true (a0.kind == (3 : Int))) true (a0.kind == (4 : Int))) true (a0.kind == (7 : Int)), phase := (1 : Int) } : XObj))))
      (cond (a0.kind == (7 : Int))
        (cond (cond (a0.mode == (0 : Int)) (cond (a0.kind == (3 : Int)) true (a0.kind == (4 : Int))) false)
          (cond (cond (a0.kind == (4 : Int)) (a0.got == (0 : Int)) false)
            (cond (cond (a0.kind == (5 : Int)) (decide (a0.name = (⟨#[]⟩ : ByteArray))) false)
              ({ a0 with name := attF a0.volume a0.node, hold := cond (cond (cond a0.hold true (a0.kind == (3 : Int))) true (a0.kind == (4 : Int))) true (a0.kind == (7 : Int)), got := a0.size, mode := (1 : Int), phase := (1 : Int) } : XObj)
              ({ a0 with hold := cond (cond (cond a0.hold true (a0.kind == (3 : Int))) true (a0.kind == (4 : Int))) true (a0.kind == (7 : Int)), got := a0.size, mode := (1 : Int), phase := (1 : Int) } : XObj))
            (cond (cond (a0.kind == (5 : Int)) (decide (a0.name = (⟨#[]⟩ : ByteArray))) false)
              ({ a0 with name := attF a0.volume a0.node, hold := cond (cond (cond a0.hold true (a0.kind == (3 : Int))) true (a0.kind == (4 : Int))) true (a0.kind == (7 : Int)), mode := (1 : Int), phase := (1 : Int) } : XObj)
              ({ a0 with hold := cond (cond (cond a0.hold true (a0.kind == (3 : Int))) true (a0.kind == (4 : Int))) true (a0.kind == (7 : Int)), mode := (1 : Int), phase := (1 : Int) } : XObj)))
          (cond (cond (a0.kind == (4 : Int)) (a0.got == (0 : Int)) false)
            (cond (cond (a0.kind == (5 : Int)) (decide (a0.name = (⟨#[]⟩ : ByteArray))) false)
              ({ a0 with name := attF a0.volume a0.node, hold := cond (cond (cond a0.hold true (a0.kind == (3 : Int))) true (a0.kind == (4 : Int))) true (a0.kind == (7 : Int)), got := a0.size, phase := (1 : Int) } : XObj)
              ({ a0 with hold := cond (cond (cond a0.hold true (a0.kind == (3 : Int))) true (a0.kind == (4 : Int))) true (a0.kind == (7 : Int)), got := a0.size, phase := (1 : Int) } : XObj))
            (cond (cond (a0.kind == (5 : Int)) (decide (a0.name = (⟨#[]⟩ : ByteArray))) false)
              ({ a0 with name := attF a0.volume a0.node, hold := cond (cond (cond a0.hold true (a0.kind == (3 : Int))) true (a0.kind == (4 : Int))) true (a0.kind == (7 : Int)), phase := (1 : Int) } : XObj)
              ({ a0 with hold := cond (cond (cond a0.hold true (a0.kind == (3 : Int))) true (a0.kind == (4 : Int))) true (a0.kind == (7 : Int)), phase := (1 : Int) } : XObj))))
        (cond (a0.kind == (4 : Int))
          (cond (cond (a0.mode == (0 : Int)) (cond (a0.kind == (3 : Int)) true (a0.kind == (4 : Int))) false)
            (cond (cond (a0.kind == (4 : Int)) (a0.got == (0 : Int)) false)
              (cond (cond (a0.kind == (5 : Int)) (decide (a0.name = (⟨#[]⟩ : ByteArray))) false)
                ({ a0 with name := attF a0.volume a0.node, hold := cond (cond (cond a0.hold true (a0.kind == (3 : Int))) true (a0.kind == (4 : Int))) true (a0.kind == (7 : Int)), got := a0.size, mode := (1 : Int), phase := (4 : Int) } : XObj)
                ({ a0 with hold := cond (cond (cond a0.hold true (a0.kind == (3 : Int))) true (a0.kind == (4 : Int))) true (a0.kind == (7 : Int)), got := a0.size, mode := (1 : Int), phase := (4 : Int) } : XObj))
              (cond (cond (a0.kind == (5 : Int)) (decide (a0.name = (⟨#[]⟩ : ByteArray))) false)
                ({ a0 with name := attF a0.volume a0.node, hold := cond (cond (cond a0.hold true (a0.kind == (3 : Int))) true (a0.kind == (4 : Int))) true (a0.kind == (7 : Int)), mode := (1 : Int), phase := (4 : Int) } : XObj)
                ({ a0 with hold := cond (cond (cond a0.hold true (a0.kind == (3 : Int))) true (a0.kind == (4 : Int))) true (a0.kind == (7 : Int)), mode := (1 : Int), phase := (4 : Int) } : XObj)))
            (cond (cond (a0.kind == (4 : Int)) (a0.got == (0 : Int)) false)
              (cond (cond (a0.kind == (5 : Int)) (decide (a0.name = (⟨#[]⟩ : ByteArray))) false)
                ({ a0 with name := attF a0.volume a0.node, hold := cond (cond (cond a0.hold true (a0.kind == (3 : Int))) true (a0.kind == (4 : Int))) true (a0.kind == (7 : Int)), got := a0.size, phase := (4 : Int) } : XObj)
                ({ a0 with hold := cond (cond (cond a0.hold true (a0.kind == (3 : Int))) true (a0.kind == (4 : Int))) true (a0.kind == (7 : Int)), got := a0.size, phase := (4 : Int) } : XObj))
              (cond (cond (a0.kind == (5 : Int)) (decide (a0.name = (⟨#[]⟩ : ByteArray))) false)
                ({ a0 with name := attF a0.volume a0.node, hold := cond (cond (cond a0.hold true (a0.kind == (3 : Int))) true (a0.kind == (4 : Int))) true (a0.kind == (7 : Int)), phase := (4 : Int) } : XObj)
                ({ a0 with hold := cond (cond (cond a0.hold true (a0.kind == (3 : Int))) true (a0.kind == (4 : Int))) true (a0.kind == (7 : Int)), phase := (4 : Int) } : XObj))))
          (cond (cond (a0.mode == (0 : Int)) (cond (a0.kind == (3 : Int)) true (a0.kind == (4 : Int))) false)
            (cond (cond (a0.kind == (4 : Int)) (a0.got == (0 : Int)) false)
              (cond (cond (a0.kind == (5 : Int)) (decide (a0.name = (⟨#[]⟩ : ByteArray))) false)
                ({ a0 with name := attF a0.volume a0.node, hold := cond (cond (cond a0.hold true (a0.kind == (3 : Int))) true (a0.kind == (4 : Int))) true (a0.kind == (7 : Int)), got := a0.size, mode := (1 : Int) } : XObj)
                ({ a0 with hold := cond (cond (cond a0.hold true (a0.kind == (3 : Int))) true (a0.kind == (4 : Int))) true (a0.kind == (7 : Int)), got := a0.size, mode := (1 : Int) } : XObj))
              (cond (cond (a0.kind == (5 : Int)) (decide (a0.name = (⟨#[]⟩ : ByteArray))) false)
                ({ a0 with name := attF a0.volume a0.node, hold := cond (cond (cond a0.hold true (a0.kind == (3 : Int))) true (a0.kind == (4 : Int))) true (a0.kind == (7 : Int)), mode := (1 : Int) } : XObj)
                ({ a0 with hold := cond (cond (cond a0.hold true (a0.kind == (3 : Int))) true (a0.kind == (4 : Int))) true (a0.kind == (7 : Int)), mode := (1 : Int) } : XObj)))
            (cond (cond (a0.kind == (4 : Int)) (a0.got == (0 : Int)) false)
              (cond (cond (a0.kind == (5 : Int)) (decide (a0.name = (⟨#[]⟩ : ByteArray))) false)
                ({ a0 with name := attF a0.volume a0.node, hold := cond (cond (cond a0.hold true (a0.kind == (3 : Int))) true (a0.kind == (4 : Int))) true (a0.kind == (7 : Int)), got := a0.size } : XObj)
                ({ a0 with hold := cond (cond (cond a0.hold true (a0.kind == (3 : Int))) true (a0.kind == (4 : Int))) true (a0.kind == (7 : Int)), got := a0.size } : XObj))
              (cond (cond (a0.kind == (5 : Int)) (decide (a0.name = (⟨#[]⟩ : ByteArray))) false)
                ({ a0 with name := attF a0.volume a0.node, hold := cond (cond (cond a0.hold true (a0.kind == (3 : Int))) true (a0.kind == (4 : Int))) true (a0.kind == (7 : Int)) } : XObj)
                ({ a0 with hold := cond (cond (cond a0.hold true (a0.kind == (3 : Int))) true (a0.kind == (4 : Int))) true (a0.kind == (7 : Int)) } : XObj)))))))
    (cond (cond (a0.mode == (0 : Int)) (cond (a0.kind == (3 : Int)) true (a0.kind == (4 : Int))) false)
      (cond (cond (a0.kind == (4 : Int)) (a0.got == (0 : Int)) false)
        (cond (cond (a0.kind == (5 : Int)) (decide (a0.name = (⟨#[]⟩ : ByteArray))) false)
          ({ a0 with name := attF a0.volume a0.node, hold := cond (cond (cond a0.hold true (a0.kind == (3 : Int))) true (a0.kind == (4 : Int))) true (a0.kind == (7 : Int)), got := a0.size, mode := (1 : Int) } : XObj)
          ({ a0 with hold := cond (cond (cond a0.hold true (a0.kind == (3 : Int))) true (a0.kind == (4 : Int))) true (a0.kind == (7 : Int)), got := a0.size, mode := (1 : Int) } : XObj))
        (cond (cond (a0.kind == (5 : Int)) (decide (a0.name = (⟨#[]⟩ : ByteArray))) false)
          ({ a0 with name := attF a0.volume a0.node, hold := cond (cond (cond a0.hold true (a0.kind == (3 : Int))) true (a0.kind == (4 : Int))) true (a0.kind == (7 : Int)), mode := (1 : Int) } : XObj)
          ({ a0 with hold := cond (cond (cond a0.hold true (a0.kind == (3 : Int))) true (a0.kind == (4 : Int))) true (a0.kind == (7 : Int)), mode := (1 : Int) } : XObj)))
      (cond (cond (a0.kind == (4 : Int)) (a0.got == (0 : Int)) false)
        (cond (cond (a0.kind == (5 : Int)) (decide (a0.name = (⟨#[]⟩ : ByteArray))) false)
          ({ a0 with name := attF a0.volume a0.node, hold := cond (cond (cond a0.hold true (a0.kind == (3 : Int))) true (a0.kind == (4 : Int))) true (a0.kind == (7 : Int)), got := a0.size } : XObj)
          ({ a0 with hold := cond (cond (cond a0.hold true (a0.kind == (3 : Int))) true (a0.kind == (4 : Int))) true (a0.kind == (7 : Int)), got := a0.size } : XObj))
        (cond (cond (a0.kind == (5 : Int)) (decide (a0.name = (⟨#[]⟩ : ByteArray))) false)
          ({ a0 with name := attF a0.volume a0.node, hold := cond (cond (cond a0.hold true (a0.kind == (3 : Int))) true (a0.kind == (4 : Int))) true (a0.kind == (7 : Int)) } : XObj)
          ({ a0 with hold := cond (cond (cond a0.hold true (a0.kind == (3 : Int))) true (a0.kind == (4 : Int))) true (a0.kind == (7 : Int)) } : XObj))))
def object_DefaultR (a0 : XObj) : RT :=
  (.ask (a0.phase == (0 : Int))
    (.ask (a0.kind == (3 : Int))
      (.ask true
        (.ask (cond (a0.mode == (0 : Int)) (cond (a0.kind == (3 : Int)) true (a0.kind == (4 : Int))) false)
          (.ask (cond (a0.kind == (4 : Int)) (a0.got == (0 : Int)) false)
            (.ask (cond (a0.kind == (5 : Int)) (decide (a0.name = (⟨#[]⟩ : ByteArray))) false)
              (.need [a0.volume.size ≤ 140737488351232, a0.node.size ≤ 140737488351232]
                (.leaf .ret ⟨slots 73 [(2, .ptr 0 0)], [.cells 37 [.int .u8 a0.kind, .str (attF a0.volume a0.node), .int .u64 a0.version, .int .u64 a0.born, .bool a0.deleting, .bool (cond (cond (cond a0.hold true (a0.kind == (3 : Int))) true (a0.kind == (4 : Int))) true (a0.kind == (7 : Int))), .str a0.cls, .int .i64 a0.size, .int .i64 a0.size, .int .u8 1, .bool a0.keep, .bool a0.wait, .str a0.zone, .str a0.node, .str a0.claim, .str a0.volume, .str a0.source, .int .u8 1, .int .u64 a0.num, .int .u64 a0.tag]]⟩ [1]))
              (.leaf .ret ⟨slots 73 [(2, .ptr 0 0)], [.cells 37 [.int .u8 a0.kind, .str a0.name, .int .u64 a0.version, .int .u64 a0.born, .bool a0.deleting, .bool (cond (cond (cond a0.hold true (a0.kind == (3 : Int))) true (a0.kind == (4 : Int))) true (a0.kind == (7 : Int))), .str a0.cls, .int .i64 a0.size, .int .i64 a0.size, .int .u8 1, .bool a0.keep, .bool a0.wait, .str a0.zone, .str a0.node, .str a0.claim, .str a0.volume, .str a0.source, .int .u8 1, .int .u64 a0.num, .int .u64 a0.tag]]⟩ [1]))
            (.ask (cond (a0.kind == (5 : Int)) (decide (a0.name = (⟨#[]⟩ : ByteArray))) false)
              (.need [a0.volume.size ≤ 140737488351232, a0.node.size ≤ 140737488351232]
                (.leaf .ret ⟨slots 73 [(2, .ptr 0 0)], [.cells 37 [.int .u8 a0.kind, .str (attF a0.volume a0.node), .int .u64 a0.version, .int .u64 a0.born, .bool a0.deleting, .bool (cond (cond (cond a0.hold true (a0.kind == (3 : Int))) true (a0.kind == (4 : Int))) true (a0.kind == (7 : Int))), .str a0.cls, .int .i64 a0.size, .int .i64 a0.got, .int .u8 1, .bool a0.keep, .bool a0.wait, .str a0.zone, .str a0.node, .str a0.claim, .str a0.volume, .str a0.source, .int .u8 1, .int .u64 a0.num, .int .u64 a0.tag]]⟩ [1]))
              (.leaf .ret ⟨slots 73 [(2, .ptr 0 0)], [.cells 37 [.int .u8 a0.kind, .str a0.name, .int .u64 a0.version, .int .u64 a0.born, .bool a0.deleting, .bool (cond (cond (cond a0.hold true (a0.kind == (3 : Int))) true (a0.kind == (4 : Int))) true (a0.kind == (7 : Int))), .str a0.cls, .int .i64 a0.size, .int .i64 a0.got, .int .u8 1, .bool a0.keep, .bool a0.wait, .str a0.zone, .str a0.node, .str a0.claim, .str a0.volume, .str a0.source, .int .u8 1, .int .u64 a0.num, .int .u64 a0.tag]]⟩ [1])))
          (.ask (cond (a0.kind == (4 : Int)) (a0.got == (0 : Int)) false)
            (.ask (cond (a0.kind == (5 : Int)) (decide (a0.name = (⟨#[]⟩ : ByteArray))) false)
              (.need [a0.volume.size ≤ 140737488351232, a0.node.size ≤ 140737488351232]
                (.leaf .ret ⟨slots 73 [(2, .ptr 0 0)], [.cells 37 [.int .u8 a0.kind, .str (attF a0.volume a0.node), .int .u64 a0.version, .int .u64 a0.born, .bool a0.deleting, .bool (cond (cond (cond a0.hold true (a0.kind == (3 : Int))) true (a0.kind == (4 : Int))) true (a0.kind == (7 : Int))), .str a0.cls, .int .i64 a0.size, .int .i64 a0.size, .int .u8 a0.mode, .bool a0.keep, .bool a0.wait, .str a0.zone, .str a0.node, .str a0.claim, .str a0.volume, .str a0.source, .int .u8 1, .int .u64 a0.num, .int .u64 a0.tag]]⟩ [1]))
              (.leaf .ret ⟨slots 73 [(2, .ptr 0 0)], [.cells 37 [.int .u8 a0.kind, .str a0.name, .int .u64 a0.version, .int .u64 a0.born, .bool a0.deleting, .bool (cond (cond (cond a0.hold true (a0.kind == (3 : Int))) true (a0.kind == (4 : Int))) true (a0.kind == (7 : Int))), .str a0.cls, .int .i64 a0.size, .int .i64 a0.size, .int .u8 a0.mode, .bool a0.keep, .bool a0.wait, .str a0.zone, .str a0.node, .str a0.claim, .str a0.volume, .str a0.source, .int .u8 1, .int .u64 a0.num, .int .u64 a0.tag]]⟩ [1]))
            (.ask (cond (a0.kind == (5 : Int)) (decide (a0.name = (⟨#[]⟩ : ByteArray))) false)
              (.need [a0.volume.size ≤ 140737488351232, a0.node.size ≤ 140737488351232]
                (.leaf .ret ⟨slots 73 [(2, .ptr 0 0)], [.cells 37 [.int .u8 a0.kind, .str (attF a0.volume a0.node), .int .u64 a0.version, .int .u64 a0.born, .bool a0.deleting, .bool (cond (cond (cond a0.hold true (a0.kind == (3 : Int))) true (a0.kind == (4 : Int))) true (a0.kind == (7 : Int))), .str a0.cls, .int .i64 a0.size, .int .i64 a0.got, .int .u8 a0.mode, .bool a0.keep, .bool a0.wait, .str a0.zone, .str a0.node, .str a0.claim, .str a0.volume, .str a0.source, .int .u8 1, .int .u64 a0.num, .int .u64 a0.tag]]⟩ [1]))
              (.leaf .ret ⟨slots 73 [(2, .ptr 0 0)], [.cells 37 [.int .u8 a0.kind, .str a0.name, .int .u64 a0.version, .int .u64 a0.born, .bool a0.deleting, .bool (cond (cond (cond a0.hold true (a0.kind == (3 : Int))) true (a0.kind == (4 : Int))) true (a0.kind == (7 : Int))), .str a0.cls, .int .i64 a0.size, .int .i64 a0.got, .int .u8 a0.mode, .bool a0.keep, .bool a0.wait, .str a0.zone, .str a0.node, .str a0.claim, .str a0.volume, .str a0.source, .int .u8 1, .int .u64 a0.num, .int .u64 a0.tag]]⟩ [1]))))
        .fail)
      (.ask (a0.kind == (7 : Int))
        (.ask (cond (a0.mode == (0 : Int)) (cond (a0.kind == (3 : Int)) true (a0.kind == (4 : Int))) false)
          (.ask (cond (a0.kind == (4 : Int)) (a0.got == (0 : Int)) false)
            (.ask (cond (a0.kind == (5 : Int)) (decide (a0.name = (⟨#[]⟩ : ByteArray))) false)
              (.need [a0.volume.size ≤ 140737488351232, a0.node.size ≤ 140737488351232]
                (.leaf .ret ⟨slots 73 [(2, .ptr 0 0)], [.cells 37 [.int .u8 a0.kind, .str (attF a0.volume a0.node), .int .u64 a0.version, .int .u64 a0.born, .bool a0.deleting, .bool (cond (cond (cond a0.hold true (a0.kind == (3 : Int))) true (a0.kind == (4 : Int))) true (a0.kind == (7 : Int))), .str a0.cls, .int .i64 a0.size, .int .i64 a0.size, .int .u8 1, .bool a0.keep, .bool a0.wait, .str a0.zone, .str a0.node, .str a0.claim, .str a0.volume, .str a0.source, .int .u8 1, .int .u64 a0.num, .int .u64 a0.tag]]⟩ [1]))
              (.leaf .ret ⟨slots 73 [(2, .ptr 0 0)], [.cells 37 [.int .u8 a0.kind, .str a0.name, .int .u64 a0.version, .int .u64 a0.born, .bool a0.deleting, .bool (cond (cond (cond a0.hold true (a0.kind == (3 : Int))) true (a0.kind == (4 : Int))) true (a0.kind == (7 : Int))), .str a0.cls, .int .i64 a0.size, .int .i64 a0.size, .int .u8 1, .bool a0.keep, .bool a0.wait, .str a0.zone, .str a0.node, .str a0.claim, .str a0.volume, .str a0.source, .int .u8 1, .int .u64 a0.num, .int .u64 a0.tag]]⟩ [1]))
            (.ask (cond (a0.kind == (5 : Int)) (decide (a0.name = (⟨#[]⟩ : ByteArray))) false)
              (.need [a0.volume.size ≤ 140737488351232, a0.node.size ≤ 140737488351232]
                (.leaf .ret ⟨slots 73 [(2, .ptr 0 0)], [.cells 37 [.int .u8 a0.kind, .str (attF a0.volume a0.node), .int .u64 a0.version, .int .u64 a0.born, .bool a0.deleting, .bool (cond (cond (cond a0.hold true (a0.kind == (3 : Int))) true (a0.kind == (4 : Int))) true (a0.kind == (7 : Int))), .str a0.cls, .int .i64 a0.size, .int .i64 a0.got, .int .u8 1, .bool a0.keep, .bool a0.wait, .str a0.zone, .str a0.node, .str a0.claim, .str a0.volume, .str a0.source, .int .u8 1, .int .u64 a0.num, .int .u64 a0.tag]]⟩ [1]))
              (.leaf .ret ⟨slots 73 [(2, .ptr 0 0)], [.cells 37 [.int .u8 a0.kind, .str a0.name, .int .u64 a0.version, .int .u64 a0.born, .bool a0.deleting, .bool (cond (cond (cond a0.hold true (a0.kind == (3 : Int))) true (a0.kind == (4 : Int))) true (a0.kind == (7 : Int))), .str a0.cls, .int .i64 a0.size, .int .i64 a0.got, .int .u8 1, .bool a0.keep, .bool a0.wait, .str a0.zone, .str a0.node, .str a0.claim, .str a0.volume, .str a0.source, .int .u8 1, .int .u64 a0.num, .int .u64 a0.tag]]⟩ [1])))
          (.ask (cond (a0.kind == (4 : Int)) (a0.got == (0 : Int)) false)
            (.ask (cond (a0.kind == (5 : Int)) (decide (a0.name = (⟨#[]⟩ : ByteArray))) false)
              (.need [a0.volume.size ≤ 140737488351232, a0.node.size ≤ 140737488351232]
                (.leaf .ret ⟨slots 73 [(2, .ptr 0 0)], [.cells 37 [.int .u8 a0.kind, .str (attF a0.volume a0.node), .int .u64 a0.version, .int .u64 a0.born, .bool a0.deleting, .bool (cond (cond (cond a0.hold true (a0.kind == (3 : Int))) true (a0.kind == (4 : Int))) true (a0.kind == (7 : Int))), .str a0.cls, .int .i64 a0.size, .int .i64 a0.size, .int .u8 a0.mode, .bool a0.keep, .bool a0.wait, .str a0.zone, .str a0.node, .str a0.claim, .str a0.volume, .str a0.source, .int .u8 1, .int .u64 a0.num, .int .u64 a0.tag]]⟩ [1]))
              (.leaf .ret ⟨slots 73 [(2, .ptr 0 0)], [.cells 37 [.int .u8 a0.kind, .str a0.name, .int .u64 a0.version, .int .u64 a0.born, .bool a0.deleting, .bool (cond (cond (cond a0.hold true (a0.kind == (3 : Int))) true (a0.kind == (4 : Int))) true (a0.kind == (7 : Int))), .str a0.cls, .int .i64 a0.size, .int .i64 a0.size, .int .u8 a0.mode, .bool a0.keep, .bool a0.wait, .str a0.zone, .str a0.node, .str a0.claim, .str a0.volume, .str a0.source, .int .u8 1, .int .u64 a0.num, .int .u64 a0.tag]]⟩ [1]))
            (.ask (cond (a0.kind == (5 : Int)) (decide (a0.name = (⟨#[]⟩ : ByteArray))) false)
              (.need [a0.volume.size ≤ 140737488351232, a0.node.size ≤ 140737488351232]
                (.leaf .ret ⟨slots 73 [(2, .ptr 0 0)], [.cells 37 [.int .u8 a0.kind, .str (attF a0.volume a0.node), .int .u64 a0.version, .int .u64 a0.born, .bool a0.deleting, .bool (cond (cond (cond a0.hold true (a0.kind == (3 : Int))) true (a0.kind == (4 : Int))) true (a0.kind == (7 : Int))), .str a0.cls, .int .i64 a0.size, .int .i64 a0.got, .int .u8 a0.mode, .bool a0.keep, .bool a0.wait, .str a0.zone, .str a0.node, .str a0.claim, .str a0.volume, .str a0.source, .int .u8 1, .int .u64 a0.num, .int .u64 a0.tag]]⟩ [1]))
              (.leaf .ret ⟨slots 73 [(2, .ptr 0 0)], [.cells 37 [.int .u8 a0.kind, .str a0.name, .int .u64 a0.version, .int .u64 a0.born, .bool a0.deleting, .bool (cond (cond (cond a0.hold true (a0.kind == (3 : Int))) true (a0.kind == (4 : Int))) true (a0.kind == (7 : Int))), .str a0.cls, .int .i64 a0.size, .int .i64 a0.got, .int .u8 a0.mode, .bool a0.keep, .bool a0.wait, .str a0.zone, .str a0.node, .str a0.claim, .str a0.volume, .str a0.source, .int .u8 1, .int .u64 a0.num, .int .u64 a0.tag]]⟩ [1]))))
        (.ask (a0.kind == (4 : Int))
          (.ask (cond (a0.mode == (0 : Int)) (cond (a0.kind == (3 : Int)) true (a0.kind == (4 : Int))) false)
            (.ask (cond (a0.kind == (4 : Int)) (a0.got == (0 : Int)) false)
              (.ask (cond (a0.kind == (5 : Int)) (decide (a0.name = (⟨#[]⟩ : ByteArray))) false)
                (.need [a0.volume.size ≤ 140737488351232, a0.node.size ≤ 140737488351232]
                  (.leaf .ret ⟨slots 73 [(2, .ptr 0 0)], [.cells 37 [.int .u8 a0.kind, .str (attF a0.volume a0.node), .int .u64 a0.version, .int .u64 a0.born, .bool a0.deleting, .bool (cond (cond (cond a0.hold true (a0.kind == (3 : Int))) true (a0.kind == (4 : Int))) true (a0.kind == (7 : Int))), .str a0.cls, .int .i64 a0.size, .int .i64 a0.size, .int .u8 1, .bool a0.keep, .bool a0.wait, .str a0.zone, .str a0.node, .str a0.claim, .str a0.volume, .str a0.source, .int .u8 4, .int .u64 a0.num, .int .u64 a0.tag]]⟩ [1]))
                (.leaf .ret ⟨slots 73 [(2, .ptr 0 0)], [.cells 37 [.int .u8 a0.kind, .str a0.name, .int .u64 a0.version, .int .u64 a0.born, .bool a0.deleting, .bool (cond (cond (cond a0.hold true (a0.kind == (3 : Int))) true (a0.kind == (4 : Int))) true (a0.kind == (7 : Int))), .str a0.cls, .int .i64 a0.size, .int .i64 a0.size, .int .u8 1, .bool a0.keep, .bool a0.wait, .str a0.zone, .str a0.node, .str a0.claim, .str a0.volume, .str a0.source, .int .u8 4, .int .u64 a0.num, .int .u64 a0.tag]]⟩ [1]))
              (.ask (cond (a0.kind == (5 : Int)) (decide (a0.name = (⟨#[]⟩ : ByteArray))) false)
                (.need [a0.volume.size ≤ 140737488351232, a0.node.size ≤ 140737488351232]
                  (.leaf .ret ⟨slots 73 [(2, .ptr 0 0)], [.cells 37 [.int .u8 a0.kind, .str (attF a0.volume a0.node), .int .u64 a0.version, .int .u64 a0.born, .bool a0.deleting, .bool (cond (cond (cond a0.hold true (a0.kind == (3 : Int))) true (a0.kind == (4 : Int))) true (a0.kind == (7 : Int))), .str a0.cls, .int .i64 a0.size, .int .i64 a0.got, .int .u8 1, .bool a0.keep, .bool a0.wait, .str a0.zone, .str a0.node, .str a0.claim, .str a0.volume, .str a0.source, .int .u8 4, .int .u64 a0.num, .int .u64 a0.tag]]⟩ [1]))
                (.leaf .ret ⟨slots 73 [(2, .ptr 0 0)], [.cells 37 [.int .u8 a0.kind, .str a0.name, .int .u64 a0.version, .int .u64 a0.born, .bool a0.deleting, .bool (cond (cond (cond a0.hold true (a0.kind == (3 : Int))) true (a0.kind == (4 : Int))) true (a0.kind == (7 : Int))), .str a0.cls, .int .i64 a0.size, .int .i64 a0.got, .int .u8 1, .bool a0.keep, .bool a0.wait, .str a0.zone, .str a0.node, .str a0.claim, .str a0.volume, .str a0.source, .int .u8 4, .int .u64 a0.num, .int .u64 a0.tag]]⟩ [1])))
            (.ask (cond (a0.kind == (4 : Int)) (a0.got == (0 : Int)) false)
              (.ask (cond (a0.kind == (5 : Int)) (decide (a0.name = (⟨#[]⟩ : ByteArray))) false)
                (.need [a0.volume.size ≤ 140737488351232, a0.node.size ≤ 140737488351232]
                  (.leaf .ret ⟨slots 73 [(2, .ptr 0 0)], [.cells 37 [.int .u8 a0.kind, .str (attF a0.volume a0.node), .int .u64 a0.version, .int .u64 a0.born, .bool a0.deleting, .bool (cond (cond (cond a0.hold true (a0.kind == (3 : Int))) true (a0.kind == (4 : Int))) true (a0.kind == (7 : Int))), .str a0.cls, .int .i64 a0.size, .int .i64 a0.size, .int .u8 a0.mode, .bool a0.keep, .bool a0.wait, .str a0.zone, .str a0.node, .str a0.claim, .str a0.volume, .str a0.source, .int .u8 4, .int .u64 a0.num, .int .u64 a0.tag]]⟩ [1]))
                (.leaf .ret ⟨slots 73 [(2, .ptr 0 0)], [.cells 37 [.int .u8 a0.kind, .str a0.name, .int .u64 a0.version, .int .u64 a0.born, .bool a0.deleting, .bool (cond (cond (cond a0.hold true (a0.kind == (3 : Int))) true (a0.kind == (4 : Int))) true (a0.kind == (7 : Int))), .str a0.cls, .int .i64 a0.size, .int .i64 a0.size, .int .u8 a0.mode, .bool a0.keep, .bool a0.wait, .str a0.zone, .str a0.node, .str a0.claim, .str a0.volume, .str a0.source, .int .u8 4, .int .u64 a0.num, .int .u64 a0.tag]]⟩ [1]))
              (.ask (cond (a0.kind == (5 : Int)) (decide (a0.name = (⟨#[]⟩ : ByteArray))) false)
                (.need [a0.volume.size ≤ 140737488351232, a0.node.size ≤ 140737488351232]
                  (.leaf .ret ⟨slots 73 [(2, .ptr 0 0)], [.cells 37 [.int .u8 a0.kind, .str (attF a0.volume a0.node), .int .u64 a0.version, .int .u64 a0.born, .bool a0.deleting, .bool (cond (cond (cond a0.hold true (a0.kind == (3 : Int))) true (a0.kind == (4 : Int))) true (a0.kind == (7 : Int))), .str a0.cls, .int .i64 a0.size, .int .i64 a0.got, .int .u8 a0.mode, .bool a0.keep, .bool a0.wait, .str a0.zone, .str a0.node, .str a0.claim, .str a0.volume, .str a0.source, .int .u8 4, .int .u64 a0.num, .int .u64 a0.tag]]⟩ [1]))
                (.leaf .ret ⟨slots 73 [(2, .ptr 0 0)], [.cells 37 [.int .u8 a0.kind, .str a0.name, .int .u64 a0.version, .int .u64 a0.born, .bool a0.deleting, .bool (cond (cond (cond a0.hold true (a0.kind == (3 : Int))) true (a0.kind == (4 : Int))) true (a0.kind == (7 : Int))), .str a0.cls, .int .i64 a0.size, .int .i64 a0.got, .int .u8 a0.mode, .bool a0.keep, .bool a0.wait, .str a0.zone, .str a0.node, .str a0.claim, .str a0.volume, .str a0.source, .int .u8 4, .int .u64 a0.num, .int .u64 a0.tag]]⟩ [1]))))
          (.ask (cond (a0.mode == (0 : Int)) (cond (a0.kind == (3 : Int)) true (a0.kind == (4 : Int))) false)
            (.ask (cond (a0.kind == (4 : Int)) (a0.got == (0 : Int)) false)
              (.ask (cond (a0.kind == (5 : Int)) (decide (a0.name = (⟨#[]⟩ : ByteArray))) false)
                (.need [a0.volume.size ≤ 140737488351232, a0.node.size ≤ 140737488351232]
                  (.leaf .ret ⟨slots 73 [(2, .ptr 0 0)], [.cells 37 [.int .u8 a0.kind, .str (attF a0.volume a0.node), .int .u64 a0.version, .int .u64 a0.born, .bool a0.deleting, .bool (cond (cond (cond a0.hold true (a0.kind == (3 : Int))) true (a0.kind == (4 : Int))) true (a0.kind == (7 : Int))), .str a0.cls, .int .i64 a0.size, .int .i64 a0.size, .int .u8 1, .bool a0.keep, .bool a0.wait, .str a0.zone, .str a0.node, .str a0.claim, .str a0.volume, .str a0.source, .int .u8 a0.phase, .int .u64 a0.num, .int .u64 a0.tag]]⟩ [1]))
                (.leaf .ret ⟨slots 73 [(2, .ptr 0 0)], [.cells 37 [.int .u8 a0.kind, .str a0.name, .int .u64 a0.version, .int .u64 a0.born, .bool a0.deleting, .bool (cond (cond (cond a0.hold true (a0.kind == (3 : Int))) true (a0.kind == (4 : Int))) true (a0.kind == (7 : Int))), .str a0.cls, .int .i64 a0.size, .int .i64 a0.size, .int .u8 1, .bool a0.keep, .bool a0.wait, .str a0.zone, .str a0.node, .str a0.claim, .str a0.volume, .str a0.source, .int .u8 a0.phase, .int .u64 a0.num, .int .u64 a0.tag]]⟩ [1]))
              (.ask (cond (a0.kind == (5 : Int)) (decide (a0.name = (⟨#[]⟩ : ByteArray))) false)
                (.need [a0.volume.size ≤ 140737488351232, a0.node.size ≤ 140737488351232]
                  (.leaf .ret ⟨slots 73 [(2, .ptr 0 0)], [.cells 37 [.int .u8 a0.kind, .str (attF a0.volume a0.node), .int .u64 a0.version, .int .u64 a0.born, .bool a0.deleting, .bool (cond (cond (cond a0.hold true (a0.kind == (3 : Int))) true (a0.kind == (4 : Int))) true (a0.kind == (7 : Int))), .str a0.cls, .int .i64 a0.size, .int .i64 a0.got, .int .u8 1, .bool a0.keep, .bool a0.wait, .str a0.zone, .str a0.node, .str a0.claim, .str a0.volume, .str a0.source, .int .u8 a0.phase, .int .u64 a0.num, .int .u64 a0.tag]]⟩ [1]))
                (.leaf .ret ⟨slots 73 [(2, .ptr 0 0)], [.cells 37 [.int .u8 a0.kind, .str a0.name, .int .u64 a0.version, .int .u64 a0.born, .bool a0.deleting, .bool (cond (cond (cond a0.hold true (a0.kind == (3 : Int))) true (a0.kind == (4 : Int))) true (a0.kind == (7 : Int))), .str a0.cls, .int .i64 a0.size, .int .i64 a0.got, .int .u8 1, .bool a0.keep, .bool a0.wait, .str a0.zone, .str a0.node, .str a0.claim, .str a0.volume, .str a0.source, .int .u8 a0.phase, .int .u64 a0.num, .int .u64 a0.tag]]⟩ [1])))
            (.ask (cond (a0.kind == (4 : Int)) (a0.got == (0 : Int)) false)
              (.ask (cond (a0.kind == (5 : Int)) (decide (a0.name = (⟨#[]⟩ : ByteArray))) false)
                (.need [a0.volume.size ≤ 140737488351232, a0.node.size ≤ 140737488351232]
                  (.leaf .ret ⟨slots 73 [(2, .ptr 0 0)], [.cells 37 [.int .u8 a0.kind, .str (attF a0.volume a0.node), .int .u64 a0.version, .int .u64 a0.born, .bool a0.deleting, .bool (cond (cond (cond a0.hold true (a0.kind == (3 : Int))) true (a0.kind == (4 : Int))) true (a0.kind == (7 : Int))), .str a0.cls, .int .i64 a0.size, .int .i64 a0.size, .int .u8 a0.mode, .bool a0.keep, .bool a0.wait, .str a0.zone, .str a0.node, .str a0.claim, .str a0.volume, .str a0.source, .int .u8 a0.phase, .int .u64 a0.num, .int .u64 a0.tag]]⟩ [1]))
                (.leaf .ret ⟨slots 73 [(2, .ptr 0 0)], [.cells 37 [.int .u8 a0.kind, .str a0.name, .int .u64 a0.version, .int .u64 a0.born, .bool a0.deleting, .bool (cond (cond (cond a0.hold true (a0.kind == (3 : Int))) true (a0.kind == (4 : Int))) true (a0.kind == (7 : Int))), .str a0.cls, .int .i64 a0.size, .int .i64 a0.size, .int .u8 a0.mode, .bool a0.keep, .bool a0.wait, .str a0.zone, .str a0.node, .str a0.claim, .str a0.volume, .str a0.source, .int .u8 a0.phase, .int .u64 a0.num, .int .u64 a0.tag]]⟩ [1]))
              (.ask (cond (a0.kind == (5 : Int)) (decide (a0.name = (⟨#[]⟩ : ByteArray))) false)
                (.need [a0.volume.size ≤ 140737488351232, a0.node.size ≤ 140737488351232]
                  (.leaf .ret ⟨slots 73 [(2, .ptr 0 0)], [.cells 37 [.int .u8 a0.kind, .str (attF a0.volume a0.node), .int .u64 a0.version, .int .u64 a0.born, .bool a0.deleting, .bool (cond (cond (cond a0.hold true (a0.kind == (3 : Int))) true (a0.kind == (4 : Int))) true (a0.kind == (7 : Int))), .str a0.cls, .int .i64 a0.size, .int .i64 a0.got, .int .u8 a0.mode, .bool a0.keep, .bool a0.wait, .str a0.zone, .str a0.node, .str a0.claim, .str a0.volume, .str a0.source, .int .u8 a0.phase, .int .u64 a0.num, .int .u64 a0.tag]]⟩ [1]))
                (.leaf .ret ⟨slots 73 [(2, .ptr 0 0)], [.cells 37 [.int .u8 a0.kind, .str a0.name, .int .u64 a0.version, .int .u64 a0.born, .bool a0.deleting, .bool (cond (cond (cond a0.hold true (a0.kind == (3 : Int))) true (a0.kind == (4 : Int))) true (a0.kind == (7 : Int))), .str a0.cls, .int .i64 a0.size, .int .i64 a0.got, .int .u8 a0.mode, .bool a0.keep, .bool a0.wait, .str a0.zone, .str a0.node, .str a0.claim, .str a0.volume, .str a0.source, .int .u8 a0.phase, .int .u64 a0.num, .int .u64 a0.tag]]⟩ [1])))))))
    (.ask (cond (a0.mode == (0 : Int)) (cond (a0.kind == (3 : Int)) true (a0.kind == (4 : Int))) false)
      (.ask (cond (a0.kind == (4 : Int)) (a0.got == (0 : Int)) false)
        (.ask (cond (a0.kind == (5 : Int)) (decide (a0.name = (⟨#[]⟩ : ByteArray))) false)
          (.need [a0.volume.size ≤ 140737488351232, a0.node.size ≤ 140737488351232]
            (.leaf .ret ⟨slots 73 [(2, .ptr 0 0)], [.cells 37 [.int .u8 a0.kind, .str (attF a0.volume a0.node), .int .u64 a0.version, .int .u64 a0.born, .bool a0.deleting, .bool (cond (cond (cond a0.hold true (a0.kind == (3 : Int))) true (a0.kind == (4 : Int))) true (a0.kind == (7 : Int))), .str a0.cls, .int .i64 a0.size, .int .i64 a0.size, .int .u8 1, .bool a0.keep, .bool a0.wait, .str a0.zone, .str a0.node, .str a0.claim, .str a0.volume, .str a0.source, .int .u8 a0.phase, .int .u64 a0.num, .int .u64 a0.tag]]⟩ [1]))
          (.leaf .ret ⟨slots 73 [(2, .ptr 0 0)], [.cells 37 [.int .u8 a0.kind, .str a0.name, .int .u64 a0.version, .int .u64 a0.born, .bool a0.deleting, .bool (cond (cond (cond a0.hold true (a0.kind == (3 : Int))) true (a0.kind == (4 : Int))) true (a0.kind == (7 : Int))), .str a0.cls, .int .i64 a0.size, .int .i64 a0.size, .int .u8 1, .bool a0.keep, .bool a0.wait, .str a0.zone, .str a0.node, .str a0.claim, .str a0.volume, .str a0.source, .int .u8 a0.phase, .int .u64 a0.num, .int .u64 a0.tag]]⟩ [1]))
        (.ask (cond (a0.kind == (5 : Int)) (decide (a0.name = (⟨#[]⟩ : ByteArray))) false)
          (.need [a0.volume.size ≤ 140737488351232, a0.node.size ≤ 140737488351232]
            (.leaf .ret ⟨slots 73 [(2, .ptr 0 0)], [.cells 37 [.int .u8 a0.kind, .str (attF a0.volume a0.node), .int .u64 a0.version, .int .u64 a0.born, .bool a0.deleting, .bool (cond (cond (cond a0.hold true (a0.kind == (3 : Int))) true (a0.kind == (4 : Int))) true (a0.kind == (7 : Int))), .str a0.cls, .int .i64 a0.size, .int .i64 a0.got, .int .u8 1, .bool a0.keep, .bool a0.wait, .str a0.zone, .str a0.node, .str a0.claim, .str a0.volume, .str a0.source, .int .u8 a0.phase, .int .u64 a0.num, .int .u64 a0.tag]]⟩ [1]))
          (.leaf .ret ⟨slots 73 [(2, .ptr 0 0)], [.cells 37 [.int .u8 a0.kind, .str a0.name, .int .u64 a0.version, .int .u64 a0.born, .bool a0.deleting, .bool (cond (cond (cond a0.hold true (a0.kind == (3 : Int))) true (a0.kind == (4 : Int))) true (a0.kind == (7 : Int))), .str a0.cls, .int .i64 a0.size, .int .i64 a0.got, .int .u8 1, .bool a0.keep, .bool a0.wait, .str a0.zone, .str a0.node, .str a0.claim, .str a0.volume, .str a0.source, .int .u8 a0.phase, .int .u64 a0.num, .int .u64 a0.tag]]⟩ [1])))
      (.ask (cond (a0.kind == (4 : Int)) (a0.got == (0 : Int)) false)
        (.ask (cond (a0.kind == (5 : Int)) (decide (a0.name = (⟨#[]⟩ : ByteArray))) false)
          (.need [a0.volume.size ≤ 140737488351232, a0.node.size ≤ 140737488351232]
            (.leaf .ret ⟨slots 73 [(2, .ptr 0 0)], [.cells 37 [.int .u8 a0.kind, .str (attF a0.volume a0.node), .int .u64 a0.version, .int .u64 a0.born, .bool a0.deleting, .bool (cond (cond (cond a0.hold true (a0.kind == (3 : Int))) true (a0.kind == (4 : Int))) true (a0.kind == (7 : Int))), .str a0.cls, .int .i64 a0.size, .int .i64 a0.size, .int .u8 a0.mode, .bool a0.keep, .bool a0.wait, .str a0.zone, .str a0.node, .str a0.claim, .str a0.volume, .str a0.source, .int .u8 a0.phase, .int .u64 a0.num, .int .u64 a0.tag]]⟩ [1]))
          (.leaf .ret ⟨slots 73 [(2, .ptr 0 0)], [.cells 37 [.int .u8 a0.kind, .str a0.name, .int .u64 a0.version, .int .u64 a0.born, .bool a0.deleting, .bool (cond (cond (cond a0.hold true (a0.kind == (3 : Int))) true (a0.kind == (4 : Int))) true (a0.kind == (7 : Int))), .str a0.cls, .int .i64 a0.size, .int .i64 a0.size, .int .u8 a0.mode, .bool a0.keep, .bool a0.wait, .str a0.zone, .str a0.node, .str a0.claim, .str a0.volume, .str a0.source, .int .u8 a0.phase, .int .u64 a0.num, .int .u64 a0.tag]]⟩ [1]))
        (.ask (cond (a0.kind == (5 : Int)) (decide (a0.name = (⟨#[]⟩ : ByteArray))) false)
          (.need [a0.volume.size ≤ 140737488351232, a0.node.size ≤ 140737488351232]
            (.leaf .ret ⟨slots 73 [(2, .ptr 0 0)], [.cells 37 [.int .u8 a0.kind, .str (attF a0.volume a0.node), .int .u64 a0.version, .int .u64 a0.born, .bool a0.deleting, .bool (cond (cond (cond a0.hold true (a0.kind == (3 : Int))) true (a0.kind == (4 : Int))) true (a0.kind == (7 : Int))), .str a0.cls, .int .i64 a0.size, .int .i64 a0.got, .int .u8 a0.mode, .bool a0.keep, .bool a0.wait, .str a0.zone, .str a0.node, .str a0.claim, .str a0.volume, .str a0.source, .int .u8 a0.phase, .int .u64 a0.num, .int .u64 a0.tag]]⟩ [1]))
          (.leaf .ret ⟨slots 73 [(2, .ptr 0 0)], [.cells 37 [.int .u8 a0.kind, .str a0.name, .int .u64 a0.version, .int .u64 a0.born, .bool a0.deleting, .bool (cond (cond (cond a0.hold true (a0.kind == (3 : Int))) true (a0.kind == (4 : Int))) true (a0.kind == (7 : Int))), .str a0.cls, .int .i64 a0.size, .int .i64 a0.got, .int .u8 a0.mode, .bool a0.keep, .bool a0.wait, .str a0.zone, .str a0.node, .str a0.claim, .str a0.volume, .str a0.source, .int .u8 a0.phase, .int .u64 a0.num, .int .u64 a0.tag]]⟩ [1])))))
theorem object_DefaultF_tr (a0 : XObj) (hp0 : a0.Fine) : Tr Try.prog 0 (bodyOf Try.f40) (fnBegins Try.f40 [.agg (oc a0)] []) (fnEnds Try.prog Try.f40 (.agg (oc (object_DefaultF a0))) []) := by
  refine Tr_tree (kok _ _ _ _ _ _) (E := E_object_Default) (L := noLoops) 60 9999 LoopsOk.none (object_DefaultR a0) (by kernel_rfl) (by kernel_rfl) (by kernel_rfl) ?_
  unfold object_DefaultR
  refine ⟨fun h0 => ?_, fun h0 => ?_⟩
  · refine ⟨fun h1 => ?_, fun h1 => ?_⟩
    · refine ⟨fun h2 => ?_, fun h2 => ?_⟩
      · refine ⟨fun h3 => ?_, fun h3 => ?_⟩
        · refine ⟨fun h4 => ?_, fun h4 => ?_⟩
          · refine ⟨fun h5 => ?_, fun h5 => ?_⟩
            · refine ⟨need_cons (by first | (have hz := hp0; unfold XObj.Fine at hz; omega) | (intros; have hz := hp0; unfold XObj.Fine at hz; omega)) (need_cons (by first | (have hz := hp0; unfold XObj.Fine at hz; omega) | (intros; have hz := hp0; unfold XObj.Fine at hz; omega)) (need_nil)), ?_⟩
              have hF : object_DefaultF a0 = ({ a0 with name := attF a0.volume a0.node, hold := cond (cond (cond a0.hold true (a0.kind == (3 : Int))) true (a0.kind == (4 : Int))) true (a0.kind == (7 : Int)), got := a0.size, mode := (1 : Int), phase := (1 : Int) } : XObj) := by unfold object_DefaultF; (try refine cond_t h0 ?_); (try refine cond_t h1 ?_); (try refine cond_t h2 ?_); (try refine cond_t h3 ?_); (try refine cond_t h4 ?_); (try refine cond_t h5 ?_); rfl
              exact ⟨trivial, .inl (by first | (rw [hF]; kernel_rfl) | kernel_rfl), by first | (rw [hF]; kernel_rfl) | kernel_rfl⟩
            · have hF : object_DefaultF a0 = ({ a0 with hold := cond (cond (cond a0.hold true (a0.kind == (3 : Int))) true (a0.kind == (4 : Int))) true (a0.kind == (7 : Int)), got := a0.size, mode := (1 : Int), phase := (1 : Int) } : XObj) := by unfold object_DefaultF; (try refine cond_t h0 ?_); (try refine cond_t h1 ?_); (try refine cond_t h2 ?_); (try refine cond_t h3 ?_); (try refine cond_t h4 ?_); (try refine cond_f h5 ?_); rfl
              exact ⟨trivial, .inl (by first | (rw [hF]; kernel_rfl) | kernel_rfl), by first | (rw [hF]; kernel_rfl) | kernel_rfl⟩
          · refine ⟨fun h5 => ?_, fun h5 => ?_⟩
            · refine ⟨need_cons (by first | (have hz := hp0; unfold XObj.Fine at hz; omega) | (intros; have hz := hp0; unfold XObj.Fine at hz; omega)) (need_cons (by first | (have hz := hp0; unfold XObj.Fine at hz; omega) | (intros; have hz := hp0; unfold XObj.Fine at hz; omega)) (need_nil)), ?_⟩
              have hF : object_DefaultF a0 = ({ a0 with name := attF a0.volume a0.node, hold := cond (cond (cond a0.hold true (a0.kind == (3 : Int))) true (a0.kind == (4 : Int))) true (a0.kind == (7 : Int)), mode := (1 : Int), phase := (1 : Int) } : XObj) := by unfold object_DefaultF; (try refine cond_t h0 ?_); (try refine cond_t h1 ?_); (try refine cond_t h2 ?_); (try refine cond_t h3 ?_); (try refine cond_f h4 ?_); (try refine cond_t h5 ?_); rfl
              exact ⟨trivial, .inl (by first | (rw [hF]; kernel_rfl) | kernel_rfl), by first | (rw [hF]; kernel_rfl) | kernel_rfl⟩
            · have hF : object_DefaultF a0 = ({ a0 with hold := cond (cond (cond a0.hold true (a0.kind == (3 : Int))) true (a0.kind == (4 : Int))) true (a0.kind == (7 : Int)), mode := (1 : Int), phase := (1 : Int) } : XObj) := by unfold object_DefaultF; (try refine cond_t h0 ?_); (try refine cond_t h1 ?_); (try refine cond_t h2 ?_); (try refine cond_t h3 ?_); (try refine cond_f h4 ?_); (try refine cond_f h5 ?_); rfl
              exact ⟨trivial, .inl (by first | (rw [hF]; kernel_rfl) | kernel_rfl), by first | (rw [hF]; kernel_rfl) | kernel_rfl⟩
        · refine ⟨fun h4 => ?_, fun h4 => ?_⟩
          · refine ⟨fun h5 => ?_, fun h5 => ?_⟩
            · refine ⟨need_cons (by first | (have hz := hp0; unfold XObj.Fine at hz; omega) | (intros; have hz := hp0; unfold XObj.Fine at hz; omega)) (need_cons (by first | (have hz := hp0; unfold XObj.Fine at hz; omega) | (intros; have hz := hp0; unfold XObj.Fine at hz; omega)) (need_nil)), ?_⟩
              have hF : object_DefaultF a0 = ({ a0 with name := attF a0.volume a0.node, hold := cond (cond (cond a0.hold true (a0.kind == (3 : Int))) true (a0.kind == (4 : Int))) true (a0.kind == (7 : Int)), got := a0.size, phase := (1 : Int) } : XObj) := by unfold object_DefaultF; (try refine cond_t h0 ?_); (try refine cond_t h1 ?_); (try refine cond_t h2 ?_); (try refine cond_f h3 ?_); (try refine cond_t h4 ?_); (try refine cond_t h5 ?_); rfl
              exact ⟨trivial, .inl (by first | (rw [hF]; kernel_rfl) | kernel_rfl), by first | (rw [hF]; kernel_rfl) | kernel_rfl⟩
            · have hF : object_DefaultF a0 = ({ a0 with hold := cond (cond (cond a0.hold true (a0.kind == (3 : Int))) true (a0.kind == (4 : Int))) true (a0.kind == (7 : Int)), got := a0.size, phase := (1 : Int) } : XObj) := by unfold object_DefaultF; (try refine cond_t h0 ?_); (try refine cond_t h1 ?_); (try refine cond_t h2 ?_); (try refine cond_f h3 ?_); (try refine cond_t h4 ?_); (try refine cond_f h5 ?_); rfl
              exact ⟨trivial, .inl (by first | (rw [hF]; kernel_rfl) | kernel_rfl), by first | (rw [hF]; kernel_rfl) | kernel_rfl⟩
          · refine ⟨fun h5 => ?_, fun h5 => ?_⟩
            · refine ⟨need_cons (by first | (have hz := hp0; unfold XObj.Fine at hz; omega) | (intros; have hz := hp0; unfold XObj.Fine at hz; omega)) (need_cons (by first | (have hz := hp0; unfold XObj.Fine at hz; omega) | (intros; have hz := hp0; unfold XObj.Fine at hz; omega)) (need_nil)), ?_⟩
              have hF : object_DefaultF a0 = ({ a0 with name := attF a0.volume a0.node, hold := cond (cond (cond a0.hold true (a0.kind == (3 : Int))) true (a0.kind == (4 : Int))) true (a0.kind == (7 : Int)), phase := (1 : Int) } : XObj) := by unfold object_DefaultF; (try refine cond_t h0 ?_); (try refine cond_t h1 ?_); (try refine cond_t h2 ?_); (try refine cond_f h3 ?_); (try refine cond_f h4 ?_); (try refine cond_t h5 ?_); rfl
              exact ⟨trivial, .inl (by first | (rw [hF]; kernel_rfl) | kernel_rfl), by first | (rw [hF]; kernel_rfl) | kernel_rfl⟩
            · have hF : object_DefaultF a0 = ({ a0 with hold := cond (cond (cond a0.hold true (a0.kind == (3 : Int))) true (a0.kind == (4 : Int))) true (a0.kind == (7 : Int)), phase := (1 : Int) } : XObj) := by unfold object_DefaultF; (try refine cond_t h0 ?_); (try refine cond_t h1 ?_); (try refine cond_t h2 ?_); (try refine cond_f h3 ?_); (try refine cond_f h4 ?_); (try refine cond_f h5 ?_); rfl
              exact ⟨trivial, .inl (by first | (rw [hF]; kernel_rfl) | kernel_rfl), by first | (rw [hF]; kernel_rfl) | kernel_rfl⟩
      · exact absurd h2 (by simp)
    · refine ⟨fun h2 => ?_, fun h2 => ?_⟩
      · refine ⟨fun h3 => ?_, fun h3 => ?_⟩
        · refine ⟨fun h4 => ?_, fun h4 => ?_⟩
          · refine ⟨fun h5 => ?_, fun h5 => ?_⟩
            · refine ⟨need_cons (by first | (have hz := hp0; unfold XObj.Fine at hz; omega) | (intros; have hz := hp0; unfold XObj.Fine at hz; omega)) (need_cons (by first | (have hz := hp0; unfold XObj.Fine at hz; omega) | (intros; have hz := hp0; unfold XObj.Fine at hz; omega)) (need_nil)), ?_⟩
              have hF : object_DefaultF a0 = ({ a0 with name := attF a0.volume a0.node, hold := cond (cond (cond a0.hold true (a0.kind == (3 : Int))) true (a0.kind == (4 : Int))) true (a0.kind == (7 : Int)), got := a0.size, mode := (1 : Int), phase := (1 : Int) } : XObj) := by unfold object_DefaultF; (try refine cond_t h0 ?_); (try refine cond_f h1 ?_); (try refine cond_t h2 ?_); (try refine cond_t h3 ?_); (try refine cond_t h4 ?_); (try refine cond_t h5 ?_); rfl
              exact ⟨trivial, .inl (by first | (rw [hF]; kernel_rfl) | kernel_rfl), by first | (rw [hF]; kernel_rfl) | kernel_rfl⟩
            · have hF : object_DefaultF a0 = ({ a0 with hold := cond (cond (cond a0.hold true (a0.kind == (3 : Int))) true (a0.kind == (4 : Int))) true (a0.kind == (7 : Int)), got := a0.size, mode := (1 : Int), phase := (1 : Int) } : XObj) := by unfold object_DefaultF; (try refine cond_t h0 ?_); (try refine cond_f h1 ?_); (try refine cond_t h2 ?_); (try refine cond_t h3 ?_); (try refine cond_t h4 ?_); (try refine cond_f h5 ?_); rfl
              exact ⟨trivial, .inl (by first | (rw [hF]; kernel_rfl) | kernel_rfl), by first | (rw [hF]; kernel_rfl) | kernel_rfl⟩
          · refine ⟨fun h5 => ?_, fun h5 => ?_⟩
            · refine ⟨need_cons (by first | (have hz := hp0; unfold XObj.Fine at hz; omega) | (intros; have hz := hp0; unfold XObj.Fine at hz; omega)) (need_cons (by first | (have hz := hp0; unfold XObj.Fine at hz; omega) | (intros; have hz := hp0; unfold XObj.Fine at hz; omega)) (need_nil)), ?_⟩
              have hF : object_DefaultF a0 = ({ a0 with name := attF a0.volume a0.node, hold := cond (cond (cond a0.hold true (a0.kind == (3 : Int))) true (a0.kind == (4 : Int))) true (a0.kind == (7 : Int)), mode := (1 : Int), phase := (1 : Int) } : XObj) := by unfold object_DefaultF; (try refine cond_t h0 ?_); (try refine cond_f h1 ?_); (try refine cond_t h2 ?_); (try refine cond_t h3 ?_); (try refine cond_f h4 ?_); (try refine cond_t h5 ?_); rfl
              exact ⟨trivial, .inl (by first | (rw [hF]; kernel_rfl) | kernel_rfl), by first | (rw [hF]; kernel_rfl) | kernel_rfl⟩
            · have hF : object_DefaultF a0 = ({ a0 with hold := cond (cond (cond a0.hold true (a0.kind == (3 : Int))) true (a0.kind == (4 : Int))) true (a0.kind == (7 : Int)), mode := (1 : Int), phase := (1 : Int) } : XObj) := by unfold object_DefaultF; (try refine cond_t h0 ?_); (try refine cond_f h1 ?_); (try refine cond_t h2 ?_); (try refine cond_t h3 ?_); (try refine cond_f h4 ?_); (try refine cond_f h5 ?_); rfl
              exact ⟨trivial, .inl (by first | (rw [hF]; kernel_rfl) | kernel_rfl), by first | (rw [hF]; kernel_rfl) | kernel_rfl⟩
        · refine ⟨fun h4 => ?_, fun h4 => ?_⟩
          · refine ⟨fun h5 => ?_, fun h5 => ?_⟩
            · refine ⟨need_cons (by first | (have hz := hp0; unfold XObj.Fine at hz; omega) | (intros; have hz := hp0; unfold XObj.Fine at hz; omega)) (need_cons (by first | (have hz := hp0; unfold XObj.Fine at hz; omega) | (intros; have hz := hp0; unfold XObj.Fine at hz; omega)) (need_nil)), ?_⟩
              have hF : object_DefaultF a0 = ({ a0 with name := attF a0.volume a0.node, hold := cond (cond (cond a0.hold true (a0.kind == (3 : Int))) true (a0.kind == (4 : Int))) true (a0.kind == (7 : Int)), got := a0.size, phase := (1 : Int) } : XObj) := by unfold object_DefaultF; (try refine cond_t h0 ?_); (try refine cond_f h1 ?_); (try refine cond_t h2 ?_); (try refine cond_f h3 ?_); (try refine cond_t h4 ?_); (try refine cond_t h5 ?_); rfl
              exact ⟨trivial, .inl (by first | (rw [hF]; kernel_rfl) | kernel_rfl), by first | (rw [hF]; kernel_rfl) | kernel_rfl⟩
            · have hF : object_DefaultF a0 = ({ a0 with hold := cond (cond (cond a0.hold true (a0.kind == (3 : Int))) true (a0.kind == (4 : Int))) true (a0.kind == (7 : Int)), got := a0.size, phase := (1 : Int) } : XObj) := by unfold object_DefaultF; (try refine cond_t h0 ?_); (try refine cond_f h1 ?_); (try refine cond_t h2 ?_); (try refine cond_f h3 ?_); (try refine cond_t h4 ?_); (try refine cond_f h5 ?_); rfl
              exact ⟨trivial, .inl (by first | (rw [hF]; kernel_rfl) | kernel_rfl), by first | (rw [hF]; kernel_rfl) | kernel_rfl⟩
          · refine ⟨fun h5 => ?_, fun h5 => ?_⟩
            · refine ⟨need_cons (by first | (have hz := hp0; unfold XObj.Fine at hz; omega) | (intros; have hz := hp0; unfold XObj.Fine at hz; omega)) (need_cons (by first | (have hz := hp0; unfold XObj.Fine at hz; omega) | (intros; have hz := hp0; unfold XObj.Fine at hz; omega)) (need_nil)), ?_⟩
              have hF : object_DefaultF a0 = ({ a0 with name := attF a0.volume a0.node, hold := cond (cond (cond a0.hold true (a0.kind == (3 : Int))) true (a0.kind == (4 : Int))) true (a0.kind == (7 : Int)), phase := (1 : Int) } : XObj) := by unfold object_DefaultF; (try refine cond_t h0 ?_); (try refine cond_f h1 ?_); (try refine cond_t h2 ?_); (try refine cond_f h3 ?_); (try refine cond_f h4 ?_); (try refine cond_t h5 ?_); rfl
              exact ⟨trivial, .inl (by first | (rw [hF]; kernel_rfl) | kernel_rfl), by first | (rw [hF]; kernel_rfl) | kernel_rfl⟩
            · have hF : object_DefaultF a0 = ({ a0 with hold := cond (cond (cond a0.hold true (a0.kind == (3 : Int))) true (a0.kind == (4 : Int))) true (a0.kind == (7 : Int)), phase := (1 : Int) } : XObj) := by unfold object_DefaultF; (try refine cond_t h0 ?_); (try refine cond_f h1 ?_); (try refine cond_t h2 ?_); (try refine cond_f h3 ?_); (try refine cond_f h4 ?_); (try refine cond_f h5 ?_); rfl
              exact ⟨trivial, .inl (by first | (rw [hF]; kernel_rfl) | kernel_rfl), by first | (rw [hF]; kernel_rfl) | kernel_rfl⟩
      · refine ⟨fun h3 => ?_, fun h3 => ?_⟩
        · refine ⟨fun h4 => ?_, fun h4 => ?_⟩
          · refine ⟨fun h5 => ?_, fun h5 => ?_⟩
            · refine ⟨fun h6 => ?_, fun h6 => ?_⟩
              · refine ⟨need_cons (by first | (have hz := hp0; unfold XObj.Fine at hz; omega) | (intros; have hz := hp0; unfold XObj.Fine at hz; omega)) (need_cons (by first | (have hz := hp0; unfold XObj.Fine at hz; omega) | (intros; have hz := hp0; unfold XObj.Fine at hz; omega)) (need_nil)), ?_⟩
                have hF : object_DefaultF a0 = ({ a0 with name := attF a0.volume a0.node, hold := cond (cond (cond a0.hold true (a0.kind == (3 : Int))) true (a0.kind == (4 : Int))) true (a0.kind == (7 : Int)), got := a0.size, mode := (1 : Int), phase := (4 : Int) } : XObj) := by unfold object_DefaultF; (try refine cond_t h0 ?_); (try refine cond_f h1 ?_); (try refine cond_f h2 ?_); (try refine cond_t h3 ?_); (try refine cond_t h4 ?_); (try refine cond_t h5 ?_); (try refine cond_t h6 ?_); rfl
                exact ⟨trivial, .inl (by first | (rw [hF]; kernel_rfl) | kernel_rfl), by first | (rw [hF]; kernel_rfl) | kernel_rfl⟩
              · have hF : object_DefaultF a0 = ({ a0 with hold := cond (cond (cond a0.hold true (a0.kind == (3 : Int))) true (a0.kind == (4 : Int))) true (a0.kind == (7 : Int)), got := a0.size, mode := (1 : Int), phase := (4 : Int) } : XObj) := by unfold object_DefaultF; (try refine cond_t h0 ?_); (try refine cond_f h1 ?_); (try refine cond_f h2 ?_); (try refine cond_t h3 ?_); (try refine cond_t h4 ?_); (try refine cond_t h5 ?_); (try refine cond_f h6 ?_); rfl
                exact ⟨trivial, .inl (by first | (rw [hF]; kernel_rfl) | kernel_rfl), by first | (rw [hF]; kernel_rfl) | kernel_rfl⟩
            · refine ⟨fun h6 => ?_, fun h6 => ?_⟩
              · refine ⟨need_cons (by first | (have hz := hp0; unfold XObj.Fine at hz; omega) | (intros; have hz := hp0; unfold XObj.Fine at hz; omega)) (need_cons (by first | (have hz := hp0; unfold XObj.Fine at hz; omega) | (intros; have hz := hp0; unfold XObj.Fine at hz; omega)) (need_nil)), ?_⟩
                have hF : object_DefaultF a0 = ({ a0 with name := attF a0.volume a0.node, hold := cond (cond (cond a0.hold true (a0.kind == (3 : Int))) true (a0.kind == (4 : Int))) true (a0.kind == (7 : Int)), mode := (1 : Int), phase := (4 : Int) } : XObj) := by unfold object_DefaultF; (try refine cond_t h0 ?_); (try refine cond_f h1 ?_); (try refine cond_f h2 ?_); (try refine cond_t h3 ?_); (try refine cond_t h4 ?_); (try refine cond_f h5 ?_); (try refine cond_t h6 ?_); rfl
                exact ⟨trivial, .inl (by first | (rw [hF]; kernel_rfl) | kernel_rfl), by first | (rw [hF]; kernel_rfl) | kernel_rfl⟩
              · have hF : object_DefaultF a0 = ({ a0 with hold := cond (cond (cond a0.hold true (a0.kind == (3 : Int))) true (a0.kind == (4 : Int))) true (a0.kind == (7 : Int)), mode := (1 : Int), phase := (4 : Int) } : XObj) := by unfold object_DefaultF; (try refine cond_t h0 ?_); (try refine cond_f h1 ?_); (try refine cond_f h2 ?_); (try refine cond_t h3 ?_); (try refine cond_t h4 ?_); (try refine cond_f h5 ?_); (try refine cond_f h6 ?_); rfl
                exact ⟨trivial, .inl (by first | (rw [hF]; kernel_rfl) | kernel_rfl), by first | (rw [hF]; kernel_rfl) | kernel_rfl⟩
          · refine ⟨fun h5 => ?_, fun h5 => ?_⟩
            · refine ⟨fun h6 => ?_, fun h6 => ?_⟩
              · refine ⟨need_cons (by first | (have hz := hp0; unfold XObj.Fine at hz; omega) | (intros; have hz := hp0; unfold XObj.Fine at hz; omega)) (need_cons (by first | (have hz := hp0; unfold XObj.Fine at hz; omega) | (intros; have hz := hp0; unfold XObj.Fine at hz; omega)) (need_nil)), ?_⟩
                have hF : object_DefaultF a0 = ({ a0 with name := attF a0.volume a0.node, hold := cond (cond (cond a0.hold true (a0.kind == (3 : Int))) true (a0.kind == (4 : Int))) true (a0.kind == (7 : Int)), got := a0.size, phase := (4 : Int) } : XObj) := by unfold object_DefaultF; (try refine cond_t h0 ?_); (try refine cond_f h1 ?_); (try refine cond_f h2 ?_); (try refine cond_t h3 ?_); (try refine cond_f h4 ?_); (try refine cond_t h5 ?_); (try refine cond_t h6 ?_); rfl
                exact ⟨trivial, .inl (by first | (rw [hF]; kernel_rfl) | kernel_rfl), by first | (rw [hF]; kernel_rfl) | kernel_rfl⟩
              · have hF : object_DefaultF a0 = ({ a0 with hold := cond (cond (cond a0.hold true (a0.kind == (3 : Int))) true (a0.kind == (4 : Int))) true (a0.kind == (7 : Int)), got := a0.size, phase := (4 : Int) } : XObj) := by unfold object_DefaultF; (try refine cond_t h0 ?_); (try refine cond_f h1 ?_); (try refine cond_f h2 ?_); (try refine cond_t h3 ?_); (try refine cond_f h4 ?_); (try refine cond_t h5 ?_); (try refine cond_f h6 ?_); rfl
                exact ⟨trivial, .inl (by first | (rw [hF]; kernel_rfl) | kernel_rfl), by first | (rw [hF]; kernel_rfl) | kernel_rfl⟩
            · refine ⟨fun h6 => ?_, fun h6 => ?_⟩
              · refine ⟨need_cons (by first | (have hz := hp0; unfold XObj.Fine at hz; omega) | (intros; have hz := hp0; unfold XObj.Fine at hz; omega)) (need_cons (by first | (have hz := hp0; unfold XObj.Fine at hz; omega) | (intros; have hz := hp0; unfold XObj.Fine at hz; omega)) (need_nil)), ?_⟩
                have hF : object_DefaultF a0 = ({ a0 with name := attF a0.volume a0.node, hold := cond (cond (cond a0.hold true (a0.kind == (3 : Int))) true (a0.kind == (4 : Int))) true (a0.kind == (7 : Int)), phase := (4 : Int) } : XObj) := by unfold object_DefaultF; (try refine cond_t h0 ?_); (try refine cond_f h1 ?_); (try refine cond_f h2 ?_); (try refine cond_t h3 ?_); (try refine cond_f h4 ?_); (try refine cond_f h5 ?_); (try refine cond_t h6 ?_); rfl
                exact ⟨trivial, .inl (by first | (rw [hF]; kernel_rfl) | kernel_rfl), by first | (rw [hF]; kernel_rfl) | kernel_rfl⟩
              · have hF : object_DefaultF a0 = ({ a0 with hold := cond (cond (cond a0.hold true (a0.kind == (3 : Int))) true (a0.kind == (4 : Int))) true (a0.kind == (7 : Int)), phase := (4 : Int) } : XObj) := by unfold object_DefaultF; (try refine cond_t h0 ?_); (try refine cond_f h1 ?_); (try refine cond_f h2 ?_); (try refine cond_t h3 ?_); (try refine cond_f h4 ?_); (try refine cond_f h5 ?_); (try refine cond_f h6 ?_); rfl
                exact ⟨trivial, .inl (by first | (rw [hF]; kernel_rfl) | kernel_rfl), by first | (rw [hF]; kernel_rfl) | kernel_rfl⟩
        · refine ⟨fun h4 => ?_, fun h4 => ?_⟩
          · refine ⟨fun h5 => ?_, fun h5 => ?_⟩
            · refine ⟨fun h6 => ?_, fun h6 => ?_⟩
              · refine ⟨need_cons (by first | (have hz := hp0; unfold XObj.Fine at hz; omega) | (intros; have hz := hp0; unfold XObj.Fine at hz; omega)) (need_cons (by first | (have hz := hp0; unfold XObj.Fine at hz; omega) | (intros; have hz := hp0; unfold XObj.Fine at hz; omega)) (need_nil)), ?_⟩
                have hF : object_DefaultF a0 = ({ a0 with name := attF a0.volume a0.node, hold := cond (cond (cond a0.hold true (a0.kind == (3 : Int))) true (a0.kind == (4 : Int))) true (a0.kind == (7 : Int)), got := a0.size, mode := (1 : Int) } : XObj) := by unfold object_DefaultF; (try refine cond_t h0 ?_); (try refine cond_f h1 ?_); (try refine cond_f h2 ?_); (try refine cond_f h3 ?_); (try refine cond_t h4 ?_); (try refine cond_t h5 ?_); (try refine cond_t h6 ?_); rfl
                exact ⟨trivial, .inl (by first | (rw [hF]; kernel_rfl) | kernel_rfl), by first | (rw [hF]; kernel_rfl) | kernel_rfl⟩
              · have hF : object_DefaultF a0 = ({ a0 with hold := cond (cond (cond a0.hold true (a0.kind == (3 : Int))) true (a0.kind == (4 : Int))) true (a0.kind == (7 : Int)), got := a0.size, mode := (1 : Int) } : XObj) := by unfold object_DefaultF; (try refine cond_t h0 ?_); (try refine cond_f h1 ?_); (try refine cond_f h2 ?_); (try refine cond_f h3 ?_); (try refine cond_t h4 ?_); (try refine cond_t h5 ?_); (try refine cond_f h6 ?_); rfl
                exact ⟨trivial, .inl (by first | (rw [hF]; kernel_rfl) | kernel_rfl), by first | (rw [hF]; kernel_rfl) | kernel_rfl⟩
            · refine ⟨fun h6 => ?_, fun h6 => ?_⟩
              · refine ⟨need_cons (by first | (have hz := hp0; unfold XObj.Fine at hz; omega) | (intros; have hz := hp0; unfold XObj.Fine at hz; omega)) (need_cons (by first | (have hz := hp0; unfold XObj.Fine at hz; omega) | (intros; have hz := hp0; unfold XObj.Fine at hz; omega)) (need_nil)), ?_⟩
                have hF : object_DefaultF a0 = ({ a0 with name := attF a0.volume a0.node, hold := cond (cond (cond a0.hold true (a0.kind == (3 : Int))) true (a0.kind == (4 : Int))) true (a0.kind == (7 : Int)), mode := (1 : Int) } : XObj) := by unfold object_DefaultF; (try refine cond_t h0 ?_); (try refine cond_f h1 ?_); (try refine cond_f h2 ?_); (try refine cond_f h3 ?_); (try refine cond_t h4 ?_); (try refine cond_f h5 ?_); (try refine cond_t h6 ?_); rfl
                exact ⟨trivial, .inl (by first | (rw [hF]; kernel_rfl) | kernel_rfl), by first | (rw [hF]; kernel_rfl) | kernel_rfl⟩
              · have hF : object_DefaultF a0 = ({ a0 with hold := cond (cond (cond a0.hold true (a0.kind == (3 : Int))) true (a0.kind == (4 : Int))) true (a0.kind == (7 : Int)), mode := (1 : Int) } : XObj) := by unfold object_DefaultF; (try refine cond_t h0 ?_); (try refine cond_f h1 ?_); (try refine cond_f h2 ?_); (try refine cond_f h3 ?_); (try refine cond_t h4 ?_); (try refine cond_f h5 ?_); (try refine cond_f h6 ?_); rfl
                exact ⟨trivial, .inl (by first | (rw [hF]; kernel_rfl) | kernel_rfl), by first | (rw [hF]; kernel_rfl) | kernel_rfl⟩
          · refine ⟨fun h5 => ?_, fun h5 => ?_⟩
            · refine ⟨fun h6 => ?_, fun h6 => ?_⟩
              · refine ⟨need_cons (by first | (have hz := hp0; unfold XObj.Fine at hz; omega) | (intros; have hz := hp0; unfold XObj.Fine at hz; omega)) (need_cons (by first | (have hz := hp0; unfold XObj.Fine at hz; omega) | (intros; have hz := hp0; unfold XObj.Fine at hz; omega)) (need_nil)), ?_⟩
                have hF : object_DefaultF a0 = ({ a0 with name := attF a0.volume a0.node, hold := cond (cond (cond a0.hold true (a0.kind == (3 : Int))) true (a0.kind == (4 : Int))) true (a0.kind == (7 : Int)), got := a0.size } : XObj) := by unfold object_DefaultF; (try refine cond_t h0 ?_); (try refine cond_f h1 ?_); (try refine cond_f h2 ?_); (try refine cond_f h3 ?_); (try refine cond_f h4 ?_); (try refine cond_t h5 ?_); (try refine cond_t h6 ?_); rfl
                exact ⟨trivial, .inl (by first | (rw [hF]; kernel_rfl) | kernel_rfl), by first | (rw [hF]; kernel_rfl) | kernel_rfl⟩
              · have hF : object_DefaultF a0 = ({ a0 with hold := cond (cond (cond a0.hold true (a0.kind == (3 : Int))) true (a0.kind == (4 : Int))) true (a0.kind == (7 : Int)), got := a0.size } : XObj) := by unfold object_DefaultF; (try refine cond_t h0 ?_); (try refine cond_f h1 ?_); (try refine cond_f h2 ?_); (try refine cond_f h3 ?_); (try refine cond_f h4 ?_); (try refine cond_t h5 ?_); (try refine cond_f h6 ?_); rfl
                exact ⟨trivial, .inl (by first | (rw [hF]; kernel_rfl) | kernel_rfl), by first | (rw [hF]; kernel_rfl) | kernel_rfl⟩
            · refine ⟨fun h6 => ?_, fun h6 => ?_⟩
              · refine ⟨need_cons (by first | (have hz := hp0; unfold XObj.Fine at hz; omega) | (intros; have hz := hp0; unfold XObj.Fine at hz; omega)) (need_cons (by first | (have hz := hp0; unfold XObj.Fine at hz; omega) | (intros; have hz := hp0; unfold XObj.Fine at hz; omega)) (need_nil)), ?_⟩
                have hF : object_DefaultF a0 = ({ a0 with name := attF a0.volume a0.node, hold := cond (cond (cond a0.hold true (a0.kind == (3 : Int))) true (a0.kind == (4 : Int))) true (a0.kind == (7 : Int)) } : XObj) := by unfold object_DefaultF; (try refine cond_t h0 ?_); (try refine cond_f h1 ?_); (try refine cond_f h2 ?_); (try refine cond_f h3 ?_); (try refine cond_f h4 ?_); (try refine cond_f h5 ?_); (try refine cond_t h6 ?_); rfl
                exact ⟨trivial, .inl (by first | (rw [hF]; kernel_rfl) | kernel_rfl), by first | (rw [hF]; kernel_rfl) | kernel_rfl⟩
              · have hF : object_DefaultF a0 = ({ a0 with hold := cond (cond (cond a0.hold true (a0.kind == (3 : Int))) true (a0.kind == (4 : Int))) true (a0.kind == (7 : Int)) } : XObj) := by unfold object_DefaultF; (try refine cond_t h0 ?_); (try refine cond_f h1 ?_); (try refine cond_f h2 ?_); (try refine cond_f h3 ?_); (try refine cond_f h4 ?_); (try refine cond_f h5 ?_); (try refine cond_f h6 ?_); rfl
                exact ⟨trivial, .inl (by first | (rw [hF]; kernel_rfl) | kernel_rfl), by first | (rw [hF]; kernel_rfl) | kernel_rfl⟩
  · refine ⟨fun h1 => ?_, fun h1 => ?_⟩
    · refine ⟨fun h2 => ?_, fun h2 => ?_⟩
      · refine ⟨fun h3 => ?_, fun h3 => ?_⟩
        · refine ⟨need_cons (by first | (have hz := hp0; unfold XObj.Fine at hz; omega) | (intros; have hz := hp0; unfold XObj.Fine at hz; omega)) (need_cons (by first | (have hz := hp0; unfold XObj.Fine at hz; omega) | (intros; have hz := hp0; unfold XObj.Fine at hz; omega)) (need_nil)), ?_⟩
          have hF : object_DefaultF a0 = ({ a0 with name := attF a0.volume a0.node, hold := cond (cond (cond a0.hold true (a0.kind == (3 : Int))) true (a0.kind == (4 : Int))) true (a0.kind == (7 : Int)), got := a0.size, mode := (1 : Int) } : XObj) := by unfold object_DefaultF; (try refine cond_f h0 ?_); (try refine cond_t h1 ?_); (try refine cond_t h2 ?_); (try refine cond_t h3 ?_); rfl
          exact ⟨trivial, .inl (by first | (rw [hF]; kernel_rfl) | kernel_rfl), by first | (rw [hF]; kernel_rfl) | kernel_rfl⟩
        · have hF : object_DefaultF a0 = ({ a0 with hold := cond (cond (cond a0.hold true (a0.kind == (3 : Int))) true (a0.kind == (4 : Int))) true (a0.kind == (7 : Int)), got := a0.size, mode := (1 : Int) } : XObj) := by unfold object_DefaultF; (try refine cond_f h0 ?_); (try refine cond_t h1 ?_); (try refine cond_t h2 ?_); (try refine cond_f h3 ?_); rfl
          exact ⟨trivial, .inl (by first | (rw [hF]; kernel_rfl) | kernel_rfl), by first | (rw [hF]; kernel_rfl) | kernel_rfl⟩
      · refine ⟨fun h3 => ?_, fun h3 => ?_⟩
        · refine ⟨need_cons (by first | (have hz := hp0; unfold XObj.Fine at hz; omega) | (intros; have hz := hp0; unfold XObj.Fine at hz; omega)) (need_cons (by first | (have hz := hp0; unfold XObj.Fine at hz; omega) | (intros; have hz := hp0; unfold XObj.Fine at hz; omega)) (need_nil)), ?_⟩
          have hF : object_DefaultF a0 = ({ a0 with name := attF a0.volume a0.node, hold := cond (cond (cond a0.hold true (a0.kind == (3 : Int))) true (a0.kind == (4 : Int))) true (a0.kind == (7 : Int)), mode := (1 : Int) } : XObj) := by unfold object_DefaultF; (try refine cond_f h0 ?_); (try refine cond_t h1 ?_); (try refine cond_f h2 ?_); (try refine cond_t h3 ?_); rfl
          exact ⟨trivial, .inl (by first | (rw [hF]; kernel_rfl) | kernel_rfl), by first | (rw [hF]; kernel_rfl) | kernel_rfl⟩
        · have hF : object_DefaultF a0 = ({ a0 with hold := cond (cond (cond a0.hold true (a0.kind == (3 : Int))) true (a0.kind == (4 : Int))) true (a0.kind == (7 : Int)), mode := (1 : Int) } : XObj) := by unfold object_DefaultF; (try refine cond_f h0 ?_); (try refine cond_t h1 ?_); (try refine cond_f h2 ?_); (try refine cond_f h3 ?_); rfl
          exact ⟨trivial, .inl (by first | (rw [hF]; kernel_rfl) | kernel_rfl), by first | (rw [hF]; kernel_rfl) | kernel_rfl⟩
    · refine ⟨fun h2 => ?_, fun h2 => ?_⟩
      · refine ⟨fun h3 => ?_, fun h3 => ?_⟩
        · refine ⟨need_cons (by first | (have hz := hp0; unfold XObj.Fine at hz; omega) | (intros; have hz := hp0; unfold XObj.Fine at hz; omega)) (need_cons (by first | (have hz := hp0; unfold XObj.Fine at hz; omega) | (intros; have hz := hp0; unfold XObj.Fine at hz; omega)) (need_nil)), ?_⟩
          have hF : object_DefaultF a0 = ({ a0 with name := attF a0.volume a0.node, hold := cond (cond (cond a0.hold true (a0.kind == (3 : Int))) true (a0.kind == (4 : Int))) true (a0.kind == (7 : Int)), got := a0.size } : XObj) := by unfold object_DefaultF; (try refine cond_f h0 ?_); (try refine cond_f h1 ?_); (try refine cond_t h2 ?_); (try refine cond_t h3 ?_); rfl
          exact ⟨trivial, .inl (by first | (rw [hF]; kernel_rfl) | kernel_rfl), by first | (rw [hF]; kernel_rfl) | kernel_rfl⟩
        · have hF : object_DefaultF a0 = ({ a0 with hold := cond (cond (cond a0.hold true (a0.kind == (3 : Int))) true (a0.kind == (4 : Int))) true (a0.kind == (7 : Int)), got := a0.size } : XObj) := by unfold object_DefaultF; (try refine cond_f h0 ?_); (try refine cond_f h1 ?_); (try refine cond_t h2 ?_); (try refine cond_f h3 ?_); rfl
          exact ⟨trivial, .inl (by first | (rw [hF]; kernel_rfl) | kernel_rfl), by first | (rw [hF]; kernel_rfl) | kernel_rfl⟩
      · refine ⟨fun h3 => ?_, fun h3 => ?_⟩
        · refine ⟨need_cons (by first | (have hz := hp0; unfold XObj.Fine at hz; omega) | (intros; have hz := hp0; unfold XObj.Fine at hz; omega)) (need_cons (by first | (have hz := hp0; unfold XObj.Fine at hz; omega) | (intros; have hz := hp0; unfold XObj.Fine at hz; omega)) (need_nil)), ?_⟩
          have hF : object_DefaultF a0 = ({ a0 with name := attF a0.volume a0.node, hold := cond (cond (cond a0.hold true (a0.kind == (3 : Int))) true (a0.kind == (4 : Int))) true (a0.kind == (7 : Int)) } : XObj) := by unfold object_DefaultF; (try refine cond_f h0 ?_); (try refine cond_f h1 ?_); (try refine cond_f h2 ?_); (try refine cond_t h3 ?_); rfl
          exact ⟨trivial, .inl (by first | (rw [hF]; kernel_rfl) | kernel_rfl), by first | (rw [hF]; kernel_rfl) | kernel_rfl⟩
        · have hF : object_DefaultF a0 = ({ a0 with hold := cond (cond (cond a0.hold true (a0.kind == (3 : Int))) true (a0.kind == (4 : Int))) true (a0.kind == (7 : Int)) } : XObj) := by unfold object_DefaultF; (try refine cond_f h0 ?_); (try refine cond_f h1 ?_); (try refine cond_f h2 ?_); (try refine cond_f h3 ?_); rfl
          exact ⟨trivial, .inl (by first | (rw [hF]; kernel_rfl) | kernel_rfl), by first | (rw [hF]; kernel_rfl) | kernel_rfl⟩
noncomputable def object_Default_fact : Fact Try.prog := factOf 40 Try.f40 (by kernel_rfl) rfl (by kernel_rfl) [.st .obj] [] true (fun t u => .agg (oc (object_DefaultF t.1))) (fun t u => []) (fun t u => [t.1.Fine])
  (fun _ _ _ => rfl) (fun t u => by kernel_rfl) (fun t u => by kernel_rfl) (fun t u h => object_DefaultF_tr t.1 (h _ List.mem_cons_self))
noncomputable def E_object_Name : Env := envOf (P := Try.prog) [] [] [] ckf
def object_NameLF (a0 : ByteArray) : Nat → Nat → Bool
  | 0, i => false
  | n + 1, i => cond (cond (cond (cond (cond (cond (!(cond (decide ((byteAt a0 (i : Int)) ≥ (97 : Int))) (decide ((byteAt a0 (i : Int)) ≤ (122 : Int))) false)) (!(cond (decide ((byteAt a0 (i : Int)) ≥ (48 : Int))) (decide ((byteAt a0 (i : Int)) ≤ (57 : Int))) false)) false) (!((byteAt a0 (i : Int)) == (45 : Int))) false) (!((byteAt a0 (i : Int)) == (46 : Int))) false) (!((byteAt a0 (i : Int)) == (35 : Int))) false) (!((byteAt a0 (i : Int)) == (47 : Int))) false)
    true
    (object_NameLF a0 n (i + 1))
def object_NameLS (a0 : ByteArray) (i : Nat) : St :=
  ⟨slots 57 [(0, .str a0), (8, .int .i64 (a0.size : Int)), (9, .int .i64 (i : Int))], []⟩
def object_NameLR (a0 : ByteArray) (i : Nat) : RT :=
  (.ask (decide ((i : Int) < (a0.size : Int)))
    (.need [0 ≤ (i : Int) ∧ (i : Int) < (a0.size : Int)]
      (.ask (cond (cond (cond (cond (cond (!(cond (decide ((byteAt a0 (i : Int)) ≥ (97 : Int))) (decide ((byteAt a0 (i : Int)) ≤ (122 : Int))) false)) (!(cond (decide ((byteAt a0 (i : Int)) ≥ (48 : Int))) (decide ((byteAt a0 (i : Int)) ≤ (57 : Int))) false)) false) (!((byteAt a0 (i : Int)) == (45 : Int))) false) (!((byteAt a0 (i : Int)) == (46 : Int))) false) (!((byteAt a0 (i : Int)) == (35 : Int))) false) (!((byteAt a0 (i : Int)) == (47 : Int))) false)
        (.leaf .ret ⟨slots 57 [(2, .bool false)], []⟩ [])
        (.leaf .normal ⟨slots 57 [(0, .str a0), (8, .int .i64 (a0.size : Int)), (9, .int .i64 (IntKind.i64.wrap ((i : Int) + (1 : Int))))], []⟩ [])))
    (.leaf (.exit 0) ⟨slots 57 [(0, .str a0)], []⟩ []))
def object_NameLT (a0 : ByteArray) (i : Nat) : Tree :=
  .ask (object_NameLF a0 (a0.size - i) i) (.leaf .ret ⟨slots 57 [(2, .bool false)], []⟩) (.leaf (.exit 0) ⟨slots 57 [(0, .str a0)], []⟩)
theorem object_NameL_loop (a0 : ByteArray) (hp0 : a0.size < 4611686018427387904) (hlen : a0.size < 4611686018427387904) (z : { z : Nat // z ≤ a0.size }) (Q : Exit → St → Prop) (h : (object_NameLT a0 z.1).All Q) : Tr Try.prog 0 (.loop (loopAt Try.f41 0)) (object_NameLS a0 z.1) Q := by
  refine Tr_loopT (kok _ _ _ _ _ _) (E := E_object_Name) (ι := { z : Nat // z ≤ a0.size }) 60 0 (fun _ => noLoops) (fun z => object_NameLS a0 z.1) (fun z => object_NameLT a0 z.1) (fun z => object_NameLR a0 z.1) (fun z => a0.size - z.1) (fun _ => LoopsOk.none) (fun z => by obtain ⟨i, hi⟩ := z; kernel_rfl) (fun z => by obtain ⟨i, hi⟩ := z; kernel_rfl) (fun z => by obtain ⟨i, hi⟩ := z; kernel_rfl) ?_ z Q h
  rintro ⟨i, hi⟩ Q hT
  replace hT : (object_NameLT a0 i).All Q := hT
  replace hi : i ≤ a0.size := hi
  show (object_NameLR a0 i).All _
  unfold object_NameLR
  refine ⟨fun h0 => ?_, fun h0 => ?_⟩
  · have hlt : i < a0.size := by simpa using h0
    have hd : a0.size - i = (a0.size - (i + 1)) + 1 := by omega
    have hw := wrap_succ (i := i) (by omega)
    refine ⟨need_cons (by first | assumption | omega | (intro; omega) | (simp only [decide_eq_true_eq, decide_eq_false_iff_not, Bool.cond_false_right, Bool.cond_true_right, Bool.cond_true_left, Bool.cond_false_left, Bool.and_eq_true, Bool.or_eq_true, Bool.not_eq_true', bytesLim, maxLen, List.length_cons, List.length_nil, List.length_append, byteSize_lit] at *; omega) | (intro; simp only [decide_eq_true_eq, decide_eq_false_iff_not, Bool.cond_false_right, Bool.cond_true_right, Bool.cond_true_left, Bool.cond_false_left, Bool.and_eq_true, Bool.or_eq_true, Bool.not_eq_true', bytesLim, maxLen, List.length_cons, List.length_nil, List.length_append, byteSize_lit] at *; omega)) (need_nil), ?_⟩
    refine ⟨fun h1 => ?_, fun h1 => ?_⟩
    · have hF : object_NameLF a0 (a0.size - i) i = true := by rw [hd]; first | exact (cond_t h1 rfl) | simp only [object_NameLF, h0, h1, cond_true, cond_false]
      unfold object_NameLT at hT
      rw [hF] at hT
      exact hT.1 rfl
    · have hF : object_NameLF a0 (a0.size - i) i = object_NameLF a0 (a0.size - (i + 1)) (i + 1) := by rw [hd]; first | exact (cond_f h1 rfl) | simp only [object_NameLF, h0, h1, cond_true, cond_false]
      refine ⟨⟨(i + 1), by show (i + 1) ≤ a0.size; omega⟩, by show a0.size - (i + 1) < a0.size - i; omega, ?_, ?_⟩
      · show _ = object_NameLS a0 (i + 1)
        unfold object_NameLS
        simp only [hw]
      · show (object_NameLT a0 (i + 1)).All Q
        unfold object_NameLT at hT ⊢
        rw [hF] at hT
        exact hT
  · have hge : ¬ i < a0.size := by simpa using h0
    have hd : a0.size - i = 0 := by omega
    have hF : object_NameLF a0 (a0.size - i) i = false := by rw [hd]; first | exact rfl | simp only [object_NameLF, h0, cond_true, cond_false]
    unfold object_NameLT at hT
    rw [hF] at hT
    exact hT.2 rfl
def object_NameF (a0 : ByteArray) : Bool :=
  cond (object_NameLF a0 (a0.size) 0)
    false
    (cond (!(decide (a0 = (⟨#[]⟩ : ByteArray)))) (decide ((a0.size : Int) ≤ (40 : Int))) false)
def object_NameR (a0 : ByteArray) : RT :=
  (.ask (object_NameLF a0 (a0.size) 0)
    (.leaf .ret ⟨slots 57 [(2, .bool false)], []⟩ [])
    (.leaf .ret ⟨slots 57 [(2, .bool (cond (!(decide (a0 = (⟨#[]⟩ : ByteArray)))) (decide ((a0.size : Int) ≤ (40 : Int))) false))], []⟩ []))
theorem object_NameF_tr (a0 : ByteArray) (hp0 : a0.size < 4611686018427387904) : Tr Try.prog 0 (bodyOf Try.f41) (fnBegins Try.f41 [.str a0] []) (fnEnds Try.prog Try.f41 (.bool (object_NameF a0)) []) := by
  refine Tr_tree (kok _ _ _ _ _ _) (E := E_object_Name) (L := (loopsOf [(0, object_NameLS a0 0, [], object_NameLT a0 0)])) 60 9999 (LoopsOk.one (g := loopAt Try.f41 0) (b := 0) (by kernel_rfl) (by kernel_rfl) (by kernel_rfl) (by kernel_rfl) (fun Q h => object_NameL_loop a0 hp0 (by first | assumption | omega | (simp only [List.length_cons, List.length_nil, List.length_append]; omega)) ⟨0, by first | exact Nat.zero_le _ | (show 0 ≤ a0.size; omega) | (show 0 ≤ a0.size; exact ⟨Nat.zero_le _, by assumption⟩) | (show 0 ≤ a0.size; simp)⟩ Q h)) (object_NameR a0) (by kernel_rfl) (by kernel_rfl) (by kernel_rfl) ?_
  unfold object_NameR
  refine ⟨fun h0 => ?_, fun h0 => ?_⟩
  · have hF : object_NameF a0 = false := by first | exact (cond_t h0 rfl) | simp only [object_NameF, h0, cond_true, cond_false]
    exact ⟨trivial, .inl (by first | (rw [hF]; kernel_rfl) | kernel_rfl), by first | (rw [hF]; kernel_rfl) | kernel_rfl⟩
  · have hF : object_NameF a0 = (cond (!(decide (a0 = (⟨#[]⟩ : ByteArray)))) (decide ((a0.size : Int) ≤ (40 : Int))) false) := by first | exact (cond_f h0 rfl) | simp only [object_NameF, h0, cond_true, cond_false]
    exact ⟨trivial, .inl (by first | (rw [hF]; kernel_rfl) | kernel_rfl), by first | (rw [hF]; kernel_rfl) | kernel_rfl⟩
noncomputable def object_Name_fact : Fact Try.prog := factOf 41 Try.f41 (by kernel_rfl) rfl (by kernel_rfl) [.c (.str)] [] true (fun t u => .bool (object_NameF t.1)) (fun t u => []) (fun t u => [t.1.size < 4611686018427387904])
  (fun _ _ _ => rfl) (fun t u => by kernel_rfl) (fun t u => by kernel_rfl) (fun t u h => object_NameF_tr t.1 (h _ List.mem_cons_self))
end Go.Proofs.Ytbcnehpndoghcaa
