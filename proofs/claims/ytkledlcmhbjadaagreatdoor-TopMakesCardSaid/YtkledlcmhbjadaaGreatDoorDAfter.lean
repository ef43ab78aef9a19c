/- Bind: what is done behind a call. -/
import Derived.Test.YtkledlcmhbjadaaGreatDoorDVolume
import Derived.Test.YtkledlcmhbjadaaGreatDoorDAtt
set_option linter.unusedVariables false
set_option linter.unusedSimpArgs false
set_option maxRecDepth 100000
namespace Go.Proofs.YtkledlcmhbjadaaGreatDoor
open Go Go.Eng
noncomputable def Z27a : Env := Z57 (P := Tryz.prog) [attF_fact] [] [] ckf
def Z7 (a0 : XObj) : XObj :=
 cond (a0.phase == (0 : Int))
  (cond (a0.kind == (3 : Int))
    (cond (cond (a0.mode == (0 : Int)) (cond (a0.kind == (3 : Int)) true (a0.kind == (4 : Int))) false)
        (cond (cond (a0.kind == (4 : Int)) (a0.got == (0 : Int)) false)
          (cond (cond (a0.kind == (5 : Int)) (decide (a0.name = (⟨#[]⟩ : ByteArray))) false)
            ({ a0 with name := attF a0.volume a0.node, hold := cond (cond (cond a0.hold true (a0.kind == (3 : Int))) true (a0.kind == (4 : Int))) true (a0.kind == (7 : Int)), got := a0.size, mode := (1 : Int), phase := (1 : Int) } : XObj)
            ({ a0 with hold := cond (cond (cond a0.hold true (a0.kind == (3 : Int))) true (a0.kind == (4 : Int))) true (a0.kind == (7 : Int)), got := a0.size, mode := (1 : Int), phase := (1 : Int) } : XObj))
          (cond (cond (a0.kind == (5 : Int)) (decide (a0.name = (⟨#[]⟩ : ByteArray))) false)
            ({ a0 with name := attF a0.volume a0.node, hold := cond (cond (cond a0.hold true (a0.kind == (3 : Int))) true (a0.kind == (4 : Int))) true (a0.kind == (7 : Int)), mode := (1 : Int), phase := (1 : Int) } : XObj)
            ({ a0 with hold := cond (cond (cond a0.hold true (a0.kind == (3 : Int))) true (a0.kind == (4 : Int))) true (a0.kind == (7 : Int)), mode := (1 : Int), phase := (1 : Int) } : XObj)))
        (cond (cond (a0.kind == (4 : Int)) (a0.got == (0 : Int)) false)
          (cond (cond (a0.kind == (5 : Int)) (decide (a0.name = (⟨#[]⟩ : ByteArray))) false)
            ({ a0 with name := attF a0.volume a0.node, hold := cond (cond (cond a0.hold true (a0.kind == (3 : Int))) true (a0.kind == (4 : Int))) true (a0.kind == (7 : Int)), got := a0.size, phase := (1 : Int) } : XObj)
            ({ a0 with hold := cond (cond (cond a0.hold true (a0.kind == (3 : Int))) true (a0.kind == (4 : Int))) true (a0.kind == (7 : Int)), got := a0.size, phase := (1 : Int) } : XObj))
          (cond (cond (a0.kind == (5 : Int)) (decide (a0.name = (⟨#[]⟩ : ByteArray))) false)
            ({ a0 with name := attF a0.volume a0.node, hold := cond (cond (cond a0.hold true (a0.kind == (3 : Int))) true (a0.kind == (4 : Int))) true (a0.kind == (7 : Int)), phase := (1 : Int) } : XObj)
            ({ a0 with hold := cond (cond (cond a0.hold true (a0.kind == (3 : Int))) true (a0.kind == (4 : Int))) true (a0.kind == (7 : Int)), phase := (1 : Int) } : XObj))))
    (cond (a0.kind == (7 : Int))
      (cond (cond (a0.mode == (0 : Int)) (cond (a0.kind == (3 : Int)) true (a0.kind == (4 : Int))) false)
        (cond (cond (a0.kind == (4 : Int)) (a0.got == (0 : Int)) false)
          (cond (cond (a0.kind == (5 : Int)) (decide (a0.name = (⟨#[]⟩ : ByteArray))) false)
            ({ a0 with name := attF a0.volume a0.node, hold := cond (cond (cond a0.hold true (a0.kind == (3 : Int))) true (a0.kind == (4 : Int))) true (a0.kind == (7 : Int)), got := a0.size, mode := (1 : Int), phase := (1 : Int) } : XObj)
            ({ a0 with hold := cond (cond (cond a0.hold true (a0.kind == (3 : Int))) true (a0.kind == (4 : Int))) true (a0.kind == (7 : Int)), got := a0.size, mode := (1 : Int), phase := (1 : Int) } : XObj))
          (cond (cond (a0.kind == (5 : Int)) (decide (a0.name = (⟨#[]⟩ : ByteArray))) false)
            ({ a0 with name := attF a0.volume a0.node, hold := cond (cond (cond a0.hold true (a0.kind == (3 : Int))) true (a0.kind == (4 : Int))) true (a0.kind == (7 : Int)), mode := (1 : Int), phase := (1 : Int) } : XObj)
            ({ a0 with hold := cond (cond (cond a0.hold true (a0.kind == (3 : Int))) true (a0.kind == (4 : Int))) true (a0.kind == (7 : Int)), mode := (1 : Int), phase := (1 : Int) } : XObj)))
        (cond (cond (a0.kind == (4 : Int)) (a0.got == (0 : Int)) false)
          (cond (cond (a0.kind == (5 : Int)) (decide (a0.name = (⟨#[]⟩ : ByteArray))) false)
            ({ a0 with name := attF a0.volume a0.node, hold := cond (cond (cond a0.hold true (a0.kind == (3 : Int))) true (a0.kind == (4 : Int))) true (a0.kind == (7 : Int)), got := a0.size, phase := (1 : Int) } : XObj)
            ({ a0 with hold := cond (cond (cond a0.hold true (a0.kind == (3 : Int))) true (a0.kind == (4 : Int))) true (a0.kind == (7 : Int)), got := a0.size, phase := (1 : Int) } : XObj))
          (cond (cond (a0.kind == (5 : Int)) (decide (a0.name = (⟨#[]⟩ : ByteArray))) false)
            ({ a0 with name := attF a0.volume a0.node, hold := cond (cond (cond a0.hold true (a0.kind == (3 : Int))) true (a0.kind == (4 : Int))) true (a0.kind == (7 : Int)), phase := (1 : Int) } : XObj)
            ({ a0 with hold := cond (cond (cond a0.hold true (a0.kind == (3 : Int))) true (a0.kind == (4 : Int))) true (a0.kind == (7 : Int)), phase := (1 : Int) } : XObj))))
      (cond (a0.kind == (4 : Int))
        (cond (cond (a0.mode == (0 : Int)) (cond (a0.kind == (3 : Int)) true (a0.kind == (4 : Int))) false)
          (cond (cond (a0.kind == (4 : Int)) (a0.got == (0 : Int)) false)
            (cond (cond (a0.kind == (5 : Int)) (decide (a0.name = (⟨#[]⟩ : ByteArray))) false)
              ({ a0 with name := attF a0.volume a0.node, hold := cond (cond (cond a0.hold true (a0.kind == (3 : Int))) true (a0.kind == (4 : Int))) true (a0.kind == (7 : Int)), got := a0.size, mode := (1 : Int), phase := (4 : Int) } : XObj)
              ({ a0 with hold := cond (cond (cond a0.hold true (a0.kind == (3 : Int))) true (a0.kind == (4 : Int))) true (a0.kind == (7 : Int)), got := a0.size, mode := (1 : Int), phase := (4 : Int) } : XObj))
            (cond (cond (a0.kind == (5 : Int)) (decide (a0.name = (⟨#[]⟩ : ByteArray))) false)
              ({ a0 with name := attF a0.volume a0.node, hold := cond (cond (cond a0.hold true (a0.kind == (3 : Int))) true (a0.kind == (4 : Int))) true (a0.kind == (7 : Int)), mode := (1 : Int), phase := (4 : Int) } : XObj)
              ({ a0 with hold := cond (cond (cond a0.hold true (a0.kind == (3 : Int))) true (a0.kind == (4 : Int))) true (a0.kind == (7 : Int)), mode := (1 : Int), phase := (4 : Int) } : XObj)))
          (cond (cond (a0.kind == (4 : Int)) (a0.got == (0 : Int)) false)
            (cond (cond (a0.kind == (5 : Int)) (decide (a0.name = (⟨#[]⟩ : ByteArray))) false)
              ({ a0 with name := attF a0.volume a0.node, hold := cond (cond (cond a0.hold true (a0.kind == (3 : Int))) true (a0.kind == (4 : Int))) true (a0.kind == (7 : Int)), got := a0.size, phase := (4 : Int) } : XObj)
              ({ a0 with hold := cond (cond (cond a0.hold true (a0.kind == (3 : Int))) true (a0.kind == (4 : Int))) true (a0.kind == (7 : Int)), got := a0.size, phase := (4 : Int) } : XObj))
            (cond (cond (a0.kind == (5 : Int)) (decide (a0.name = (⟨#[]⟩ : ByteArray))) false)
              ({ a0 with name := attF a0.volume a0.node, hold := cond (cond (cond a0.hold true (a0.kind == (3 : Int))) true (a0.kind == (4 : Int))) true (a0.kind == (7 : Int)), phase := (4 : Int) } : XObj)
              ({ a0 with hold := cond (cond (cond a0.hold true (a0.kind == (3 : Int))) true (a0.kind == (4 : Int))) true (a0.kind == (7 : Int)), phase := (4 : Int) } : XObj))))
        (cond (cond (a0.mode == (0 : Int)) (cond (a0.kind == (3 : Int)) true (a0.kind == (4 : Int))) false)
          (cond (cond (a0.kind == (4 : Int)) (a0.got == (0 : Int)) false)
            (cond (cond (a0.kind == (5 : Int)) (decide (a0.name = (⟨#[]⟩ : ByteArray))) false)
              ({ a0 with name := attF a0.volume a0.node, hold := cond (cond (cond a0.hold true (a0.kind == (3 : Int))) true (a0.kind == (4 : Int))) true (a0.kind == (7 : Int)), got := a0.size, mode := (1 : Int) } : XObj)
              ({ a0 with hold := cond (cond (cond a0.hold true (a0.kind == (3 : Int))) true (a0.kind == (4 : Int))) true (a0.kind == (7 : Int)), got := a0.size, mode := (1 : Int) } : XObj))
            (cond (cond (a0.kind == (5 : Int)) (decide (a0.name = (⟨#[]⟩ : ByteArray))) false)
              ({ a0 with name := attF a0.volume a0.node, hold := cond (cond (cond a0.hold true (a0.kind == (3 : Int))) true (a0.kind == (4 : Int))) true (a0.kind == (7 : Int)), mode := (1 : Int) } : XObj)
              ({ a0 with hold := cond (cond (cond a0.hold true (a0.kind == (3 : Int))) true (a0.kind == (4 : Int))) true (a0.kind == (7 : Int)), mode := (1 : Int) } : XObj)))
          (cond (cond (a0.kind == (4 : Int)) (a0.got == (0 : Int)) false)
            (cond (cond (a0.kind == (5 : Int)) (decide (a0.name = (⟨#[]⟩ : ByteArray))) false)
              ({ a0 with name := attF a0.volume a0.node, hold := cond (cond (cond a0.hold true (a0.kind == (3 : Int))) true (a0.kind == (4 : Int))) true (a0.kind == (7 : Int)), got := a0.size } : XObj)
              ({ a0 with hold := cond (cond (cond a0.hold true (a0.kind == (3 : Int))) true (a0.kind == (4 : Int))) true (a0.kind == (7 : Int)), got := a0.size } : XObj))
            (cond (cond (a0.kind == (5 : Int)) (decide (a0.name = (⟨#[]⟩ : ByteArray))) false)
              ({ a0 with name := attF a0.volume a0.node, hold := cond (cond (cond a0.hold true (a0.kind == (3 : Int))) true (a0.kind == (4 : Int))) true (a0.kind == (7 : Int)) } : XObj)
              ({ a0 with hold := cond (cond (cond a0.hold true (a0.kind == (3 : Int))) true (a0.kind == (4 : Int))) true (a0.kind == (7 : Int)) } : XObj)))))))
  (cond (cond (a0.mode == (0 : Int)) (cond (a0.kind == (3 : Int)) true (a0.kind == (4 : Int))) false)
    (cond (cond (a0.kind == (4 : Int)) (a0.got == (0 : Int)) false)
      (cond (cond (a0.kind == (5 : Int)) (decide (a0.name = (⟨#[]⟩ : ByteArray))) false)
        ({ a0 with name := attF a0.volume a0.node, hold := cond (cond (cond a0.hold true (a0.kind == (3 : Int))) true (a0.kind == (4 : Int))) true (a0.kind == (7 : Int)), got := a0.size, mode := (1 : Int) } : XObj)
        ({ a0 with hold := cond (cond (cond a0.hold true (a0.kind == (3 : Int))) true (a0.kind == (4 : Int))) true (a0.kind == (7 : Int)), got := a0.size, mode := (1 : Int) } : XObj))
      (cond (cond (a0.kind == (5 : Int)) (decide (a0.name = (⟨#[]⟩ : ByteArray))) false)
        ({ a0 with name := attF a0.volume a0.node, hold := cond (cond (cond a0.hold true (a0.kind == (3 : Int))) true (a0.kind == (4 : Int))) true (a0.kind == (7 : Int)), mode := (1 : Int) } : XObj)
        ({ a0 with hold := cond (cond (cond a0.hold true (a0.kind == (3 : Int))) true (a0.kind == (4 : Int))) true (a0.kind == (7 : Int)), mode := (1 : Int) } : XObj)))
    (cond (cond (a0.kind == (4 : Int)) (a0.got == (0 : Int)) false)
      (cond (cond (a0.kind == (5 : Int)) (decide (a0.name = (⟨#[]⟩ : ByteArray))) false)
        ({ a0 with name := attF a0.volume a0.node, hold := cond (cond (cond a0.hold true (a0.kind == (3 : Int))) true (a0.kind == (4 : Int))) true (a0.kind == (7 : Int)), got := a0.size } : XObj)
        ({ a0 with hold := cond (cond (cond a0.hold true (a0.kind == (3 : Int))) true (a0.kind == (4 : Int))) true (a0.kind == (7 : Int)), got := a0.size } : XObj))
      (cond (cond (a0.kind == (5 : Int)) (decide (a0.name = (⟨#[]⟩ : ByteArray))) false)
        ({ a0 with name := attF a0.volume a0.node, hold := cond (cond (cond a0.hold true (a0.kind == (3 : Int))) true (a0.kind == (4 : Int))) true (a0.kind == (7 : Int)) } : XObj)
        ({ a0 with hold := cond (cond (cond a0.hold true (a0.kind == (3 : Int))) true (a0.kind == (4 : Int))) true (a0.kind == (7 : Int)) } : XObj))))
def Z18d (a0 : XObj) : RT :=
 (.ask (a0.phase == (0 : Int))
   (.ask (a0.kind == (3 : Int))
     (.ask true
       (.ask (cond (a0.mode == (0 : Int)) (cond (a0.kind == (3 : Int)) true (a0.kind == (4 : Int))) false)
         (.ask (cond (a0.kind == (4 : Int)) (a0.got == (0 : Int)) false)
           (.ask (cond (a0.kind == (5 : Int)) (decide (a0.name = (⟨#[]⟩ : ByteArray))) false)
             (.need [a0.volume.size ≤ 140737488351232, a0.node.size ≤ 140737488351232]
               (.leaf .ret ⟨Z9 73 [(2, .ptr 0 0)], [.cells 32 [.int .u8 a0.kind, .str (attF a0.volume a0.node), .int .u64 a0.version, .int .u64 a0.born, .bool a0.deleting, .bool (cond (cond (cond a0.hold true (a0.kind == (3 : Int))) true (a0.kind == (4 : Int))) true (a0.kind == (7 : Int))), .str a0.cls, .int .i64 a0.size, .int .i64 a0.size, .int .u8 1, .bool a0.keep, .bool a0.wait, .str a0.zone, .str a0.node, .str a0.claim, .str a0.volume, .str a0.source, .int .u8 1, .int .u64 a0.num, .int .u64 a0.tag]]⟩ [1]))
             (.leaf .ret ⟨Z9 73 [(2, .ptr 0 0)], [.cells 32 [.int .u8 a0.kind, .str a0.name, .int .u64 a0.version, .int .u64 a0.born, .bool a0.deleting, .bool (cond (cond (cond a0.hold true (a0.kind == (3 : Int))) true (a0.kind == (4 : Int))) true (a0.kind == (7 : Int))), .str a0.cls, .int .i64 a0.size, .int .i64 a0.size, .int .u8 1, .bool a0.keep, .bool a0.wait, .str a0.zone, .str a0.node, .str a0.claim, .str a0.volume, .str a0.source, .int .u8 1, .int .u64 a0.num, .int .u64 a0.tag]]⟩ [1]))
           (.ask (cond (a0.kind == (5 : Int)) (decide (a0.name = (⟨#[]⟩ : ByteArray))) false)
             (.need [a0.volume.size ≤ 140737488351232, a0.node.size ≤ 140737488351232]
               (.leaf .ret ⟨Z9 73 [(2, .ptr 0 0)], [.cells 32 [.int .u8 a0.kind, .str (attF a0.volume a0.node), .int .u64 a0.version, .int .u64 a0.born, .bool a0.deleting, .bool (cond (cond (cond a0.hold true (a0.kind == (3 : Int))) true (a0.kind == (4 : Int))) true (a0.kind == (7 : Int))), .str a0.cls, .int .i64 a0.size, .int .i64 a0.got, .int .u8 1, .bool a0.keep, .bool a0.wait, .str a0.zone, .str a0.node, .str a0.claim, .str a0.volume, .str a0.source, .int .u8 1, .int .u64 a0.num, .int .u64 a0.tag]]⟩ [1]))
             (.leaf .ret ⟨Z9 73 [(2, .ptr 0 0)], [.cells 32 [.int .u8 a0.kind, .str a0.name, .int .u64 a0.version, .int .u64 a0.born, .bool a0.deleting, .bool (cond (cond (cond a0.hold true (a0.kind == (3 : Int))) true (a0.kind == (4 : Int))) true (a0.kind == (7 : Int))), .str a0.cls, .int .i64 a0.size, .int .i64 a0.got, .int .u8 1, .bool a0.keep, .bool a0.wait, .str a0.zone, .str a0.node, .str a0.claim, .str a0.volume, .str a0.source, .int .u8 1, .int .u64 a0.num, .int .u64 a0.tag]]⟩ [1])))
         (.ask (cond (a0.kind == (4 : Int)) (a0.got == (0 : Int)) false)
           (.ask (cond (a0.kind == (5 : Int)) (decide (a0.name = (⟨#[]⟩ : ByteArray))) false)
             (.need [a0.volume.size ≤ 140737488351232, a0.node.size ≤ 140737488351232]
               (.leaf .ret ⟨Z9 73 [(2, .ptr 0 0)], [.cells 32 [.int .u8 a0.kind, .str (attF a0.volume a0.node), .int .u64 a0.version, .int .u64 a0.born, .bool a0.deleting, .bool (cond (cond (cond a0.hold true (a0.kind == (3 : Int))) true (a0.kind == (4 : Int))) true (a0.kind == (7 : Int))), .str a0.cls, .int .i64 a0.size, .int .i64 a0.size, .int .u8 a0.mode, .bool a0.keep, .bool a0.wait, .str a0.zone, .str a0.node, .str a0.claim, .str a0.volume, .str a0.source, .int .u8 1, .int .u64 a0.num, .int .u64 a0.tag]]⟩ [1]))
             (.leaf .ret ⟨Z9 73 [(2, .ptr 0 0)], [.cells 32 [.int .u8 a0.kind, .str a0.name, .int .u64 a0.version, .int .u64 a0.born, .bool a0.deleting, .bool (cond (cond (cond a0.hold true (a0.kind == (3 : Int))) true (a0.kind == (4 : Int))) true (a0.kind == (7 : Int))), .str a0.cls, .int .i64 a0.size, .int .i64 a0.size, .int .u8 a0.mode, .bool a0.keep, .bool a0.wait, .str a0.zone, .str a0.node, .str a0.claim, .str a0.volume, .str a0.source, .int .u8 1, .int .u64 a0.num, .int .u64 a0.tag]]⟩ [1]))
           (.ask (cond (a0.kind == (5 : Int)) (decide (a0.name = (⟨#[]⟩ : ByteArray))) false)
             (.need [a0.volume.size ≤ 140737488351232, a0.node.size ≤ 140737488351232]
               (.leaf .ret ⟨Z9 73 [(2, .ptr 0 0)], [.cells 32 [.int .u8 a0.kind, .str (attF a0.volume a0.node), .int .u64 a0.version, .int .u64 a0.born, .bool a0.deleting, .bool (cond (cond (cond a0.hold true (a0.kind == (3 : Int))) true (a0.kind == (4 : Int))) true (a0.kind == (7 : Int))), .str a0.cls, .int .i64 a0.size, .int .i64 a0.got, .int .u8 a0.mode, .bool a0.keep, .bool a0.wait, .str a0.zone, .str a0.node, .str a0.claim, .str a0.volume, .str a0.source, .int .u8 1, .int .u64 a0.num, .int .u64 a0.tag]]⟩ [1]))
             (.leaf .ret ⟨Z9 73 [(2, .ptr 0 0)], [.cells 32 [.int .u8 a0.kind, .str a0.name, .int .u64 a0.version, .int .u64 a0.born, .bool a0.deleting, .bool (cond (cond (cond a0.hold true (a0.kind == (3 : Int))) true (a0.kind == (4 : Int))) true (a0.kind == (7 : Int))), .str a0.cls, .int .i64 a0.size, .int .i64 a0.got, .int .u8 a0.mode, .bool a0.keep, .bool a0.wait, .str a0.zone, .str a0.node, .str a0.claim, .str a0.volume, .str a0.source, .int .u8 1, .int .u64 a0.num, .int .u64 a0.tag]]⟩ [1]))))
       .fail)
     (.ask (a0.kind == (7 : Int))
       (.ask (cond (a0.mode == (0 : Int)) (cond (a0.kind == (3 : Int)) true (a0.kind == (4 : Int))) false)
         (.ask (cond (a0.kind == (4 : Int)) (a0.got == (0 : Int)) false)
           (.ask (cond (a0.kind == (5 : Int)) (decide (a0.name = (⟨#[]⟩ : ByteArray))) false)
             (.need [a0.volume.size ≤ 140737488351232, a0.node.size ≤ 140737488351232]
               (.leaf .ret ⟨Z9 73 [(2, .ptr 0 0)], [.cells 32 [.int .u8 a0.kind, .str (attF a0.volume a0.node), .int .u64 a0.version, .int .u64 a0.born, .bool a0.deleting, .bool (cond (cond (cond a0.hold true (a0.kind == (3 : Int))) true (a0.kind == (4 : Int))) true (a0.kind == (7 : Int))), .str a0.cls, .int .i64 a0.size, .int .i64 a0.size, .int .u8 1, .bool a0.keep, .bool a0.wait, .str a0.zone, .str a0.node, .str a0.claim, .str a0.volume, .str a0.source, .int .u8 1, .int .u64 a0.num, .int .u64 a0.tag]]⟩ [1]))
             (.leaf .ret ⟨Z9 73 [(2, .ptr 0 0)], [.cells 32 [.int .u8 a0.kind, .str a0.name, .int .u64 a0.version, .int .u64 a0.born, .bool a0.deleting, .bool (cond (cond (cond a0.hold true (a0.kind == (3 : Int))) true (a0.kind == (4 : Int))) true (a0.kind == (7 : Int))), .str a0.cls, .int .i64 a0.size, .int .i64 a0.size, .int .u8 1, .bool a0.keep, .bool a0.wait, .str a0.zone, .str a0.node, .str a0.claim, .str a0.volume, .str a0.source, .int .u8 1, .int .u64 a0.num, .int .u64 a0.tag]]⟩ [1]))
           (.ask (cond (a0.kind == (5 : Int)) (decide (a0.name = (⟨#[]⟩ : ByteArray))) false)
             (.need [a0.volume.size ≤ 140737488351232, a0.node.size ≤ 140737488351232]
               (.leaf .ret ⟨Z9 73 [(2, .ptr 0 0)], [.cells 32 [.int .u8 a0.kind, .str (attF a0.volume a0.node), .int .u64 a0.version, .int .u64 a0.born, .bool a0.deleting, .bool (cond (cond (cond a0.hold true (a0.kind == (3 : Int))) true (a0.kind == (4 : Int))) true (a0.kind == (7 : Int))), .str a0.cls, .int .i64 a0.size, .int .i64 a0.got, .int .u8 1, .bool a0.keep, .bool a0.wait, .str a0.zone, .str a0.node, .str a0.claim, .str a0.volume, .str a0.source, .int .u8 1, .int .u64 a0.num, .int .u64 a0.tag]]⟩ [1]))
             (.leaf .ret ⟨Z9 73 [(2, .ptr 0 0)], [.cells 32 [.int .u8 a0.kind, .str a0.name, .int .u64 a0.version, .int .u64 a0.born, .bool a0.deleting, .bool (cond (cond (cond a0.hold true (a0.kind == (3 : Int))) true (a0.kind == (4 : Int))) true (a0.kind == (7 : Int))), .str a0.cls, .int .i64 a0.size, .int .i64 a0.got, .int .u8 1, .bool a0.keep, .bool a0.wait, .str a0.zone, .str a0.node, .str a0.claim, .str a0.volume, .str a0.source, .int .u8 1, .int .u64 a0.num, .int .u64 a0.tag]]⟩ [1])))
         (.ask (cond (a0.kind == (4 : Int)) (a0.got == (0 : Int)) false)
           (.ask (cond (a0.kind == (5 : Int)) (decide (a0.name = (⟨#[]⟩ : ByteArray))) false)
             (.need [a0.volume.size ≤ 140737488351232, a0.node.size ≤ 140737488351232]
               (.leaf .ret ⟨Z9 73 [(2, .ptr 0 0)], [.cells 32 [.int .u8 a0.kind, .str (attF a0.volume a0.node), .int .u64 a0.version, .int .u64 a0.born, .bool a0.deleting, .bool (cond (cond (cond a0.hold true (a0.kind == (3 : Int))) true (a0.kind == (4 : Int))) true (a0.kind == (7 : Int))), .str a0.cls, .int .i64 a0.size, .int .i64 a0.size, .int .u8 a0.mode, .bool a0.keep, .bool a0.wait, .str a0.zone, .str a0.node, .str a0.claim, .str a0.volume, .str a0.source, .int .u8 1, .int .u64 a0.num, .int .u64 a0.tag]]⟩ [1]))
             (.leaf .ret ⟨Z9 73 [(2, .ptr 0 0)], [.cells 32 [.int .u8 a0.kind, .str a0.name, .int .u64 a0.version, .int .u64 a0.born, .bool a0.deleting, .bool (cond (cond (cond a0.hold true (a0.kind == (3 : Int))) true (a0.kind == (4 : Int))) true (a0.kind == (7 : Int))), .str a0.cls, .int .i64 a0.size, .int .i64 a0.size, .int .u8 a0.mode, .bool a0.keep, .bool a0.wait, .str a0.zone, .str a0.node, .str a0.claim, .str a0.volume, .str a0.source, .int .u8 1, .int .u64 a0.num, .int .u64 a0.tag]]⟩ [1]))
           (.ask (cond (a0.kind == (5 : Int)) (decide (a0.name = (⟨#[]⟩ : ByteArray))) false)
             (.need [a0.volume.size ≤ 140737488351232, a0.node.size ≤ 140737488351232]
               (.leaf .ret ⟨Z9 73 [(2, .ptr 0 0)], [.cells 32 [.int .u8 a0.kind, .str (attF a0.volume a0.node), .int .u64 a0.version, .int .u64 a0.born, .bool a0.deleting, .bool (cond (cond (cond a0.hold true (a0.kind == (3 : Int))) true (a0.kind == (4 : Int))) true (a0.kind == (7 : Int))), .str a0.cls, .int .i64 a0.size, .int .i64 a0.got, .int .u8 a0.mode, .bool a0.keep, .bool a0.wait, .str a0.zone, .str a0.node, .str a0.claim, .str a0.volume, .str a0.source, .int .u8 1, .int .u64 a0.num, .int .u64 a0.tag]]⟩ [1]))
             (.leaf .ret ⟨Z9 73 [(2, .ptr 0 0)], [.cells 32 [.int .u8 a0.kind, .str a0.name, .int .u64 a0.version, .int .u64 a0.born, .bool a0.deleting, .bool (cond (cond (cond a0.hold true (a0.kind == (3 : Int))) true (a0.kind == (4 : Int))) true (a0.kind == (7 : Int))), .str a0.cls, .int .i64 a0.size, .int .i64 a0.got, .int .u8 a0.mode, .bool a0.keep, .bool a0.wait, .str a0.zone, .str a0.node, .str a0.claim, .str a0.volume, .str a0.source, .int .u8 1, .int .u64 a0.num, .int .u64 a0.tag]]⟩ [1]))))
       (.ask (a0.kind == (4 : Int))
         (.ask (cond (a0.mode == (0 : Int)) (cond (a0.kind == (3 : Int)) true (a0.kind == (4 : Int))) false)
           (.ask (cond (a0.kind == (4 : Int)) (a0.got == (0 : Int)) false)
             (.ask (cond (a0.kind == (5 : Int)) (decide (a0.name = (⟨#[]⟩ : ByteArray))) false)
               (.need [a0.volume.size ≤ 140737488351232, a0.node.size ≤ 140737488351232]
                 (.leaf .ret ⟨Z9 73 [(2, .ptr 0 0)], [.cells 32 [.int .u8 a0.kind, .str (attF a0.volume a0.node), .int .u64 a0.version, .int .u64 a0.born, .bool a0.deleting, .bool (cond (cond (cond a0.hold true (a0.kind == (3 : Int))) true (a0.kind == (4 : Int))) true (a0.kind == (7 : Int))), .str a0.cls, .int .i64 a0.size, .int .i64 a0.size, .int .u8 1, .bool a0.keep, .bool a0.wait, .str a0.zone, .str a0.node, .str a0.claim, .str a0.volume, .str a0.source, .int .u8 4, .int .u64 a0.num, .int .u64 a0.tag]]⟩ [1]))
               (.leaf .ret ⟨Z9 73 [(2, .ptr 0 0)], [.cells 32 [.int .u8 a0.kind, .str a0.name, .int .u64 a0.version, .int .u64 a0.born, .bool a0.deleting, .bool (cond (cond (cond a0.hold true (a0.kind == (3 : Int))) true (a0.kind == (4 : Int))) true (a0.kind == (7 : Int))), .str a0.cls, .int .i64 a0.size, .int .i64 a0.size, .int .u8 1, .bool a0.keep, .bool a0.wait, .str a0.zone, .str a0.node, .str a0.claim, .str a0.volume, .str a0.source, .int .u8 4, .int .u64 a0.num, .int .u64 a0.tag]]⟩ [1]))
             (.ask (cond (a0.kind == (5 : Int)) (decide (a0.name = (⟨#[]⟩ : ByteArray))) false)
               (.need [a0.volume.size ≤ 140737488351232, a0.node.size ≤ 140737488351232]
                 (.leaf .ret ⟨Z9 73 [(2, .ptr 0 0)], [.cells 32 [.int .u8 a0.kind, .str (attF a0.volume a0.node), .int .u64 a0.version, .int .u64 a0.born, .bool a0.deleting, .bool (cond (cond (cond a0.hold true (a0.kind == (3 : Int))) true (a0.kind == (4 : Int))) true (a0.kind == (7 : Int))), .str a0.cls, .int .i64 a0.size, .int .i64 a0.got, .int .u8 1, .bool a0.keep, .bool a0.wait, .str a0.zone, .str a0.node, .str a0.claim, .str a0.volume, .str a0.source, .int .u8 4, .int .u64 a0.num, .int .u64 a0.tag]]⟩ [1]))
               (.leaf .ret ⟨Z9 73 [(2, .ptr 0 0)], [.cells 32 [.int .u8 a0.kind, .str a0.name, .int .u64 a0.version, .int .u64 a0.born, .bool a0.deleting, .bool (cond (cond (cond a0.hold true (a0.kind == (3 : Int))) true (a0.kind == (4 : Int))) true (a0.kind == (7 : Int))), .str a0.cls, .int .i64 a0.size, .int .i64 a0.got, .int .u8 1, .bool a0.keep, .bool a0.wait, .str a0.zone, .str a0.node, .str a0.claim, .str a0.volume, .str a0.source, .int .u8 4, .int .u64 a0.num, .int .u64 a0.tag]]⟩ [1])))
           (.ask (cond (a0.kind == (4 : Int)) (a0.got == (0 : Int)) false)
             (.ask (cond (a0.kind == (5 : Int)) (decide (a0.name = (⟨#[]⟩ : ByteArray))) false)
               (.need [a0.volume.size ≤ 140737488351232, a0.node.size ≤ 140737488351232]
                 (.leaf .ret ⟨Z9 73 [(2, .ptr 0 0)], [.cells 32 [.int .u8 a0.kind, .str (attF a0.volume a0.node), .int .u64 a0.version, .int .u64 a0.born, .bool a0.deleting, .bool (cond (cond (cond a0.hold true (a0.kind == (3 : Int))) true (a0.kind == (4 : Int))) true (a0.kind == (7 : Int))), .str a0.cls, .int .i64 a0.size, .int .i64 a0.size, .int .u8 a0.mode, .bool a0.keep, .bool a0.wait, .str a0.zone, .str a0.node, .str a0.claim, .str a0.volume, .str a0.source, .int .u8 4, .int .u64 a0.num, .int .u64 a0.tag]]⟩ [1]))
               (.leaf .ret ⟨Z9 73 [(2, .ptr 0 0)], [.cells 32 [.int .u8 a0.kind, .str a0.name, .int .u64 a0.version, .int .u64 a0.born, .bool a0.deleting, .bool (cond (cond (cond a0.hold true (a0.kind == (3 : Int))) true (a0.kind == (4 : Int))) true (a0.kind == (7 : Int))), .str a0.cls, .int .i64 a0.size, .int .i64 a0.size, .int .u8 a0.mode, .bool a0.keep, .bool a0.wait, .str a0.zone, .str a0.node, .str a0.claim, .str a0.volume, .str a0.source, .int .u8 4, .int .u64 a0.num, .int .u64 a0.tag]]⟩ [1]))
             (.ask (cond (a0.kind == (5 : Int)) (decide (a0.name = (⟨#[]⟩ : ByteArray))) false)
               (.need [a0.volume.size ≤ 140737488351232, a0.node.size ≤ 140737488351232]
                 (.leaf .ret ⟨Z9 73 [(2, .ptr 0 0)], [.cells 32 [.int .u8 a0.kind, .str (attF a0.volume a0.node), .int .u64 a0.version, .int .u64 a0.born, .bool a0.deleting, .bool (cond (cond (cond a0.hold true (a0.kind == (3 : Int))) true (a0.kind == (4 : Int))) true (a0.kind == (7 : Int))), .str a0.cls, .int .i64 a0.size, .int .i64 a0.got, .int .u8 a0.mode, .bool a0.keep, .bool a0.wait, .str a0.zone, .str a0.node, .str a0.claim, .str a0.volume, .str a0.source, .int .u8 4, .int .u64 a0.num, .int .u64 a0.tag]]⟩ [1]))
               (.leaf .ret ⟨Z9 73 [(2, .ptr 0 0)], [.cells 32 [.int .u8 a0.kind, .str a0.name, .int .u64 a0.version, .int .u64 a0.born, .bool a0.deleting, .bool (cond (cond (cond a0.hold true (a0.kind == (3 : Int))) true (a0.kind == (4 : Int))) true (a0.kind == (7 : Int))), .str a0.cls, .int .i64 a0.size, .int .i64 a0.got, .int .u8 a0.mode, .bool a0.keep, .bool a0.wait, .str a0.zone, .str a0.node, .str a0.claim, .str a0.volume, .str a0.source, .int .u8 4, .int .u64 a0.num, .int .u64 a0.tag]]⟩ [1]))))
         (.ask (cond (a0.mode == (0 : Int)) (cond (a0.kind == (3 : Int)) true (a0.kind == (4 : Int))) false)
           (.ask (cond (a0.kind == (4 : Int)) (a0.got == (0 : Int)) false)
             (.ask (cond (a0.kind == (5 : Int)) (decide (a0.name = (⟨#[]⟩ : ByteArray))) false)
               (.need [a0.volume.size ≤ 140737488351232, a0.node.size ≤ 140737488351232]
                 (.leaf .ret ⟨Z9 73 [(2, .ptr 0 0)], [.cells 32 [.int .u8 a0.kind, .str (attF a0.volume a0.node), .int .u64 a0.version, .int .u64 a0.born, .bool a0.deleting, .bool (cond (cond (cond a0.hold true (a0.kind == (3 : Int))) true (a0.kind == (4 : Int))) true (a0.kind == (7 : Int))), .str a0.cls, .int .i64 a0.size, .int .i64 a0.size, .int .u8 1, .bool a0.keep, .bool a0.wait, .str a0.zone, .str a0.node, .str a0.claim, .str a0.volume, .str a0.source, .int .u8 a0.phase, .int .u64 a0.num, .int .u64 a0.tag]]⟩ [1]))
               (.leaf .ret ⟨Z9 73 [(2, .ptr 0 0)], [.cells 32 [.int .u8 a0.kind, .str a0.name, .int .u64 a0.version, .int .u64 a0.born, .bool a0.deleting, .bool (cond (cond (cond a0.hold true (a0.kind == (3 : Int))) true (a0.kind == (4 : Int))) true (a0.kind == (7 : Int))), .str a0.cls, .int .i64 a0.size, .int .i64 a0.size, .int .u8 1, .bool a0.keep, .bool a0.wait, .str a0.zone, .str a0.node, .str a0.claim, .str a0.volume, .str a0.source, .int .u8 a0.phase, .int .u64 a0.num, .int .u64 a0.tag]]⟩ [1]))
             (.ask (cond (a0.kind == (5 : Int)) (decide (a0.name = (⟨#[]⟩ : ByteArray))) false)
               (.need [a0.volume.size ≤ 140737488351232, a0.node.size ≤ 140737488351232]
                 (.leaf .ret ⟨Z9 73 [(2, .ptr 0 0)], [.cells 32 [.int .u8 a0.kind, .str (attF a0.volume a0.node), .int .u64 a0.version, .int .u64 a0.born, .bool a0.deleting, .bool (cond (cond (cond a0.hold true (a0.kind == (3 : Int))) true (a0.kind == (4 : Int))) true (a0.kind == (7 : Int))), .str a0.cls, .int .i64 a0.size, .int .i64 a0.got, .int .u8 1, .bool a0.keep, .bool a0.wait, .str a0.zone, .str a0.node, .str a0.claim, .str a0.volume, .str a0.source, .int .u8 a0.phase, .int .u64 a0.num, .int .u64 a0.tag]]⟩ [1]))
               (.leaf .ret ⟨Z9 73 [(2, .ptr 0 0)], [.cells 32 [.int .u8 a0.kind, .str a0.name, .int .u64 a0.version, .int .u64 a0.born, .bool a0.deleting, .bool (cond (cond (cond a0.hold true (a0.kind == (3 : Int))) true (a0.kind == (4 : Int))) true (a0.kind == (7 : Int))), .str a0.cls, .int .i64 a0.size, .int .i64 a0.got, .int .u8 1, .bool a0.keep, .bool a0.wait, .str a0.zone, .str a0.node, .str a0.claim, .str a0.volume, .str a0.source, .int .u8 a0.phase, .int .u64 a0.num, .int .u64 a0.tag]]⟩ [1])))
           (.ask (cond (a0.kind == (4 : Int)) (a0.got == (0 : Int)) false)
             (.ask (cond (a0.kind == (5 : Int)) (decide (a0.name = (⟨#[]⟩ : ByteArray))) false)
               (.need [a0.volume.size ≤ 140737488351232, a0.node.size ≤ 140737488351232]
                 (.leaf .ret ⟨Z9 73 [(2, .ptr 0 0)], [.cells 32 [.int .u8 a0.kind, .str (attF a0.volume a0.node), .int .u64 a0.version, .int .u64 a0.born, .bool a0.deleting, .bool (cond (cond (cond a0.hold true (a0.kind == (3 : Int))) true (a0.kind == (4 : Int))) true (a0.kind == (7 : Int))), .str a0.cls, .int .i64 a0.size, .int .i64 a0.size, .int .u8 a0.mode, .bool a0.keep, .bool a0.wait, .str a0.zone, .str a0.node, .str a0.claim, .str a0.volume, .str a0.source, .int .u8 a0.phase, .int .u64 a0.num, .int .u64 a0.tag]]⟩ [1]))
               (.leaf .ret ⟨Z9 73 [(2, .ptr 0 0)], [.cells 32 [.int .u8 a0.kind, .str a0.name, .int .u64 a0.version, .int .u64 a0.born, .bool a0.deleting, .bool (cond (cond (cond a0.hold true (a0.kind == (3 : Int))) true (a0.kind == (4 : Int))) true (a0.kind == (7 : Int))), .str a0.cls, .int .i64 a0.size, .int .i64 a0.size, .int .u8 a0.mode, .bool a0.keep, .bool a0.wait, .str a0.zone, .str a0.node, .str a0.claim, .str a0.volume, .str a0.source, .int .u8 a0.phase, .int .u64 a0.num, .int .u64 a0.tag]]⟩ [1]))
             (.ask (cond (a0.kind == (5 : Int)) (decide (a0.name = (⟨#[]⟩ : ByteArray))) false)
               (.need [a0.volume.size ≤ 140737488351232, a0.node.size ≤ 140737488351232]
                 (.leaf .ret ⟨Z9 73 [(2, .ptr 0 0)], [.cells 32 [.int .u8 a0.kind, .str (attF a0.volume a0.node), .int .u64 a0.version, .int .u64 a0.born, .bool a0.deleting, .bool (cond (cond (cond a0.hold true (a0.kind == (3 : Int))) true (a0.kind == (4 : Int))) true (a0.kind == (7 : Int))), .str a0.cls, .int .i64 a0.size, .int .i64 a0.got, .int .u8 a0.mode, .bool a0.keep, .bool a0.wait, .str a0.zone, .str a0.node, .str a0.claim, .str a0.volume, .str a0.source, .int .u8 a0.phase, .int .u64 a0.num, .int .u64 a0.tag]]⟩ [1]))
               (.leaf .ret ⟨Z9 73 [(2, .ptr 0 0)], [.cells 32 [.int .u8 a0.kind, .str a0.name, .int .u64 a0.version, .int .u64 a0.born, .bool a0.deleting, .bool (cond (cond (cond a0.hold true (a0.kind == (3 : Int))) true (a0.kind == (4 : Int))) true (a0.kind == (7 : Int))), .str a0.cls, .int .i64 a0.size, .int .i64 a0.got, .int .u8 a0.mode, .bool a0.keep, .bool a0.wait, .str a0.zone, .str a0.node, .str a0.claim, .str a0.volume, .str a0.source, .int .u8 a0.phase, .int .u64 a0.num, .int .u64 a0.tag]]⟩ [1])))))))
   (.ask (cond (a0.mode == (0 : Int)) (cond (a0.kind == (3 : Int)) true (a0.kind == (4 : Int))) false)
     (.ask (cond (a0.kind == (4 : Int)) (a0.got == (0 : Int)) false)
       (.ask (cond (a0.kind == (5 : Int)) (decide (a0.name = (⟨#[]⟩ : ByteArray))) false)
         (.need [a0.volume.size ≤ 140737488351232, a0.node.size ≤ 140737488351232]
           (.leaf .ret ⟨Z9 73 [(2, .ptr 0 0)], [.cells 32 [.int .u8 a0.kind, .str (attF a0.volume a0.node), .int .u64 a0.version, .int .u64 a0.born, .bool a0.deleting, .bool (cond (cond (cond a0.hold true (a0.kind == (3 : Int))) true (a0.kind == (4 : Int))) true (a0.kind == (7 : Int))), .str a0.cls, .int .i64 a0.size, .int .i64 a0.size, .int .u8 1, .bool a0.keep, .bool a0.wait, .str a0.zone, .str a0.node, .str a0.claim, .str a0.volume, .str a0.source, .int .u8 a0.phase, .int .u64 a0.num, .int .u64 a0.tag]]⟩ [1]))
         (.leaf .ret ⟨Z9 73 [(2, .ptr 0 0)], [.cells 32 [.int .u8 a0.kind, .str a0.name, .int .u64 a0.version, .int .u64 a0.born, .bool a0.deleting, .bool (cond (cond (cond a0.hold true (a0.kind == (3 : Int))) true (a0.kind == (4 : Int))) true (a0.kind == (7 : Int))), .str a0.cls, .int .i64 a0.size, .int .i64 a0.size, .int .u8 1, .bool a0.keep, .bool a0.wait, .str a0.zone, .str a0.node, .str a0.claim, .str a0.volume, .str a0.source, .int .u8 a0.phase, .int .u64 a0.num, .int .u64 a0.tag]]⟩ [1]))
       (.ask (cond (a0.kind == (5 : Int)) (decide (a0.name = (⟨#[]⟩ : ByteArray))) false)
         (.need [a0.volume.size ≤ 140737488351232, a0.node.size ≤ 140737488351232]
           (.leaf .ret ⟨Z9 73 [(2, .ptr 0 0)], [.cells 32 [.int .u8 a0.kind, .str (attF a0.volume a0.node), .int .u64 a0.version, .int .u64 a0.born, .bool a0.deleting, .bool (cond (cond (cond a0.hold true (a0.kind == (3 : Int))) true (a0.kind == (4 : Int))) true (a0.kind == (7 : Int))), .str a0.cls, .int .i64 a0.size, .int .i64 a0.got, .int .u8 1, .bool a0.keep, .bool a0.wait, .str a0.zone, .str a0.node, .str a0.claim, .str a0.volume, .str a0.source, .int .u8 a0.phase, .int .u64 a0.num, .int .u64 a0.tag]]⟩ [1]))
         (.leaf .ret ⟨Z9 73 [(2, .ptr 0 0)], [.cells 32 [.int .u8 a0.kind, .str a0.name, .int .u64 a0.version, .int .u64 a0.born, .bool a0.deleting, .bool (cond (cond (cond a0.hold true (a0.kind == (3 : Int))) true (a0.kind == (4 : Int))) true (a0.kind == (7 : Int))), .str a0.cls, .int .i64 a0.size, .int .i64 a0.got, .int .u8 1, .bool a0.keep, .bool a0.wait, .str a0.zone, .str a0.node, .str a0.claim, .str a0.volume, .str a0.source, .int .u8 a0.phase, .int .u64 a0.num, .int .u64 a0.tag]]⟩ [1])))
     (.ask (cond (a0.kind == (4 : Int)) (a0.got == (0 : Int)) false)
       (.ask (cond (a0.kind == (5 : Int)) (decide (a0.name = (⟨#[]⟩ : ByteArray))) false)
         (.need [a0.volume.size ≤ 140737488351232, a0.node.size ≤ 140737488351232]
           (.leaf .ret ⟨Z9 73 [(2, .ptr 0 0)], [.cells 32 [.int .u8 a0.kind, .str (attF a0.volume a0.node), .int .u64 a0.version, .int .u64 a0.born, .bool a0.deleting, .bool (cond (cond (cond a0.hold true (a0.kind == (3 : Int))) true (a0.kind == (4 : Int))) true (a0.kind == (7 : Int))), .str a0.cls, .int .i64 a0.size, .int .i64 a0.size, .int .u8 a0.mode, .bool a0.keep, .bool a0.wait, .str a0.zone, .str a0.node, .str a0.claim, .str a0.volume, .str a0.source, .int .u8 a0.phase, .int .u64 a0.num, .int .u64 a0.tag]]⟩ [1]))
         (.leaf .ret ⟨Z9 73 [(2, .ptr 0 0)], [.cells 32 [.int .u8 a0.kind, .str a0.name, .int .u64 a0.version, .int .u64 a0.born, .bool a0.deleting, .bool (cond (cond (cond a0.hold true (a0.kind == (3 : Int))) true (a0.kind == (4 : Int))) true (a0.kind == (7 : Int))), .str a0.cls, .int .i64 a0.size, .int .i64 a0.size, .int .u8 a0.mode, .bool a0.keep, .bool a0.wait, .str a0.zone, .str a0.node, .str a0.claim, .str a0.volume, .str a0.source, .int .u8 a0.phase, .int .u64 a0.num, .int .u64 a0.tag]]⟩ [1]))
       (.ask (cond (a0.kind == (5 : Int)) (decide (a0.name = (⟨#[]⟩ : ByteArray))) false)
         (.need [a0.volume.size ≤ 140737488351232, a0.node.size ≤ 140737488351232]
           (.leaf .ret ⟨Z9 73 [(2, .ptr 0 0)], [.cells 32 [.int .u8 a0.kind, .str (attF a0.volume a0.node), .int .u64 a0.version, .int .u64 a0.born, .bool a0.deleting, .bool (cond (cond (cond a0.hold true (a0.kind == (3 : Int))) true (a0.kind == (4 : Int))) true (a0.kind == (7 : Int))), .str a0.cls, .int .i64 a0.size, .int .i64 a0.got, .int .u8 a0.mode, .bool a0.keep, .bool a0.wait, .str a0.zone, .str a0.node, .str a0.claim, .str a0.volume, .str a0.source, .int .u8 a0.phase, .int .u64 a0.num, .int .u64 a0.tag]]⟩ [1]))
         (.leaf .ret ⟨Z9 73 [(2, .ptr 0 0)], [.cells 32 [.int .u8 a0.kind, .str a0.name, .int .u64 a0.version, .int .u64 a0.born, .bool a0.deleting, .bool (cond (cond (cond a0.hold true (a0.kind == (3 : Int))) true (a0.kind == (4 : Int))) true (a0.kind == (7 : Int))), .str a0.cls, .int .i64 a0.size, .int .i64 a0.got, .int .u8 a0.mode, .bool a0.keep, .bool a0.wait, .str a0.zone, .str a0.node, .str a0.claim, .str a0.volume, .str a0.source, .int .u8 a0.phase, .int .u64 a0.num, .int .u64 a0.tag]]⟩ [1])))))
theorem Z209 (a0 : XObj) (hp0 : a0.Fine) : Tr Tryz.prog 0 (Z3a Tryz.f30) (Z1f Tryz.f30 [.agg (oc a0)] []) (Z4a Tryz.prog Tryz.f30 (.agg (oc (Z7 a0))) []) := by
 refine Z20 (kok _ _ _ _ _ _) (E := Z27a) (L := Z2a) 60 9999 Z14.none (Z18d a0) (by kernel_rfl) (by kernel_rfl) (by kernel_rfl) ?_
 unfold Z18d
 refine ⟨fun h0 => ?_, fun h0 => ?_⟩
 · refine ⟨fun h1 => ?_, fun h1 => ?_⟩
   · refine ⟨fun h2 => ?_, fun h2 => ?_⟩
     · refine ⟨fun h3 => ?_, fun h3 => ?_⟩
       · refine ⟨fun h4 => ?_, fun h4 => ?_⟩
         · refine ⟨fun h5 => ?_, fun h5 => ?_⟩
           · refine ⟨Z6 (by first | (have hz := hp0; unfold XObj.Fine at hz; omega) | (intros; have hz := hp0; unfold XObj.Fine at hz; omega)) (Z6 (by first | (have hz := hp0; unfold XObj.Fine at hz; omega) | (intros; have hz := hp0; unfold XObj.Fine at hz; omega)) (Z10)), ?_⟩
             have hF : Z7 a0 = ({ a0 with name := attF a0.volume a0.node, hold := cond (cond (cond a0.hold true (a0.kind == (3 : Int))) true (a0.kind == (4 : Int))) true (a0.kind == (7 : Int)), got := a0.size, mode := (1 : Int), phase := (1 : Int) } : XObj) := by unfold Z7; (try refine Zb h0 ?_); (try refine Zb h1 ?_); (try refine cond_s h2 ?_); (try refine Zb h3 ?_); (try refine Zb h4 ?_); (try refine Zb h5 ?_); rfl
             exact ⟨trivial, .inl (by first | (rw [hF]; kernel_rfl) | kernel_rfl), by first | (rw [hF]; kernel_rfl) | kernel_rfl⟩
           · have hF : Z7 a0 = ({ a0 with hold := cond (cond (cond a0.hold true (a0.kind == (3 : Int))) true (a0.kind == (4 : Int))) true (a0.kind == (7 : Int)), got := a0.size, mode := (1 : Int), phase := (1 : Int) } : XObj) := by unfold Z7; (try refine Zb h0 ?_); (try refine Zb h1 ?_); (try refine cond_s h2 ?_); (try refine Zb h3 ?_); (try refine Zb h4 ?_); (try refine Z5 h5 ?_); rfl
             exact ⟨trivial, .inl (by first | (rw [hF]; kernel_rfl) | kernel_rfl), by first | (rw [hF]; kernel_rfl) | kernel_rfl⟩
         · refine ⟨fun h5 => ?_, fun h5 => ?_⟩
           · refine ⟨Z6 (by first | (have hz := hp0; unfold XObj.Fine at hz; omega) | (intros; have hz := hp0; unfold XObj.Fine at hz; omega)) (Z6 (by first | (have hz := hp0; unfold XObj.Fine at hz; omega) | (intros; have hz := hp0; unfold XObj.Fine at hz; omega)) (Z10)), ?_⟩
             have hF : Z7 a0 = ({ a0 with name := attF a0.volume a0.node, hold := cond (cond (cond a0.hold true (a0.kind == (3 : Int))) true (a0.kind == (4 : Int))) true (a0.kind == (7 : Int)), mode := (1 : Int), phase := (1 : Int) } : XObj) := by unfold Z7; (try refine Zb h0 ?_); (try refine Zb h1 ?_); (try refine cond_s h2 ?_); (try refine Zb h3 ?_); (try refine Z5 h4 ?_); (try refine Zb h5 ?_); rfl
             exact ⟨trivial, .inl (by first | (rw [hF]; kernel_rfl) | kernel_rfl), by first | (rw [hF]; kernel_rfl) | kernel_rfl⟩
           · have hF : Z7 a0 = ({ a0 with hold := cond (cond (cond a0.hold true (a0.kind == (3 : Int))) true (a0.kind == (4 : Int))) true (a0.kind == (7 : Int)), mode := (1 : Int), phase := (1 : Int) } : XObj) := by unfold Z7; (try refine Zb h0 ?_); (try refine Zb h1 ?_); (try refine cond_s h2 ?_); (try refine Zb h3 ?_); (try refine Z5 h4 ?_); (try refine Z5 h5 ?_); rfl
             exact ⟨trivial, .inl (by first | (rw [hF]; kernel_rfl) | kernel_rfl), by first | (rw [hF]; kernel_rfl) | kernel_rfl⟩
       · refine ⟨fun h4 => ?_, fun h4 => ?_⟩
         · refine ⟨fun h5 => ?_, fun h5 => ?_⟩
           · refine ⟨Z6 (by first | (have hz := hp0; unfold XObj.Fine at hz; omega) | (intros; have hz := hp0; unfold XObj.Fine at hz; omega)) (Z6 (by first | (have hz := hp0; unfold XObj.Fine at hz; omega) | (intros; have hz := hp0; unfold XObj.Fine at hz; omega)) (Z10)), ?_⟩
             have hF : Z7 a0 = ({ a0 with name := attF a0.volume a0.node, hold := cond (cond (cond a0.hold true (a0.kind == (3 : Int))) true (a0.kind == (4 : Int))) true (a0.kind == (7 : Int)), got := a0.size, phase := (1 : Int) } : XObj) := by unfold Z7; (try refine Zb h0 ?_); (try refine Zb h1 ?_); (try refine cond_s h2 ?_); (try refine Z5 h3 ?_); (try refine Zb h4 ?_); (try refine Zb h5 ?_); rfl
             exact ⟨trivial, .inl (by first | (rw [hF]; kernel_rfl) | kernel_rfl), by first | (rw [hF]; kernel_rfl) | kernel_rfl⟩
           · have hF : Z7 a0 = ({ a0 with hold := cond (cond (cond a0.hold true (a0.kind == (3 : Int))) true (a0.kind == (4 : Int))) true (a0.kind == (7 : Int)), got := a0.size, phase := (1 : Int) } : XObj) := by unfold Z7; (try refine Zb h0 ?_); (try refine Zb h1 ?_); (try refine cond_s h2 ?_); (try refine Z5 h3 ?_); (try refine Zb h4 ?_); (try refine Z5 h5 ?_); rfl
             exact ⟨trivial, .inl (by first | (rw [hF]; kernel_rfl) | kernel_rfl), by first | (rw [hF]; kernel_rfl) | kernel_rfl⟩
         · refine ⟨fun h5 => ?_, fun h5 => ?_⟩
           · refine ⟨Z6 (by first | (have hz := hp0; unfold XObj.Fine at hz; omega) | (intros; have hz := hp0; unfold XObj.Fine at hz; omega)) (Z6 (by first | (have hz := hp0; unfold XObj.Fine at hz; omega) | (intros; have hz := hp0; unfold XObj.Fine at hz; omega)) (Z10)), ?_⟩
             have hF : Z7 a0 = ({ a0 with name := attF a0.volume a0.node, hold := cond (cond (cond a0.hold true (a0.kind == (3 : Int))) true (a0.kind == (4 : Int))) true (a0.kind == (7 : Int)), phase := (1 : Int) } : XObj) := by unfold Z7; (try refine Zb h0 ?_); (try refine Zb h1 ?_); (try refine cond_s h2 ?_); (try refine Z5 h3 ?_); (try refine Z5 h4 ?_); (try refine Zb h5 ?_); rfl
             exact ⟨trivial, .inl (by first | (rw [hF]; kernel_rfl) | kernel_rfl), by first | (rw [hF]; kernel_rfl) | kernel_rfl⟩
           · have hF : Z7 a0 = ({ a0 with hold := cond (cond (cond a0.hold true (a0.kind == (3 : Int))) true (a0.kind == (4 : Int))) true (a0.kind == (7 : Int)), phase := (1 : Int) } : XObj) := by unfold Z7; (try refine Zb h0 ?_); (try refine Zb h1 ?_); (try refine cond_s h2 ?_); (try refine Z5 h3 ?_); (try refine Z5 h4 ?_); (try refine Z5 h5 ?_); rfl
             exact ⟨trivial, .inl (by first | (rw [hF]; kernel_rfl) | kernel_rfl), by first | (rw [hF]; kernel_rfl) | kernel_rfl⟩
     · exact absurd h2 (by simp)
   · refine ⟨fun h2 => ?_, fun h2 => ?_⟩
     · refine ⟨fun h3 => ?_, fun h3 => ?_⟩
       · refine ⟨fun h4 => ?_, fun h4 => ?_⟩
         · refine ⟨fun h5 => ?_, fun h5 => ?_⟩
           · refine ⟨Z6 (by first | (have hz := hp0; unfold XObj.Fine at hz; omega) | (intros; have hz := hp0; unfold XObj.Fine at hz; omega)) (Z6 (by first | (have hz := hp0; unfold XObj.Fine at hz; omega) | (intros; have hz := hp0; unfold XObj.Fine at hz; omega)) (Z10)), ?_⟩
             have hF : Z7 a0 = ({ a0 with name := attF a0.volume a0.node, hold := cond (cond (cond a0.hold true (a0.kind == (3 : Int))) true (a0.kind == (4 : Int))) true (a0.kind == (7 : Int)), got := a0.size, mode := (1 : Int), phase := (1 : Int) } : XObj) := by unfold Z7; (try refine Zb h0 ?_); (try refine Z5 h1 ?_); (try refine Zb h2 ?_); (try refine Zb h3 ?_); (try refine Zb h4 ?_); (try refine Zb h5 ?_); rfl
             exact ⟨trivial, .inl (by first | (rw [hF]; kernel_rfl) | kernel_rfl), by first | (rw [hF]; kernel_rfl) | kernel_rfl⟩
           · have hF : Z7 a0 = ({ a0 with hold := cond (cond (cond a0.hold true (a0.kind == (3 : Int))) true (a0.kind == (4 : Int))) true (a0.kind == (7 : Int)), got := a0.size, mode := (1 : Int), phase := (1 : Int) } : XObj) := by unfold Z7; (try refine Zb h0 ?_); (try refine Z5 h1 ?_); (try refine Zb h2 ?_); (try refine Zb h3 ?_); (try refine Zb h4 ?_); (try refine Z5 h5 ?_); rfl
             exact ⟨trivial, .inl (by first | (rw [hF]; kernel_rfl) | kernel_rfl), by first | (rw [hF]; kernel_rfl) | kernel_rfl⟩
         · refine ⟨fun h5 => ?_, fun h5 => ?_⟩
           · refine ⟨Z6 (by first | (have hz := hp0; unfold XObj.Fine at hz; omega) | (intros; have hz := hp0; unfold XObj.Fine at hz; omega)) (Z6 (by first | (have hz := hp0; unfold XObj.Fine at hz; omega) | (intros; have hz := hp0; unfold XObj.Fine at hz; omega)) (Z10)), ?_⟩
             have hF : Z7 a0 = ({ a0 with name := attF a0.volume a0.node, hold := cond (cond (cond a0.hold true (a0.kind == (3 : Int))) true (a0.kind == (4 : Int))) true (a0.kind == (7 : Int)), mode := (1 : Int), phase := (1 : Int) } : XObj) := by unfold Z7; (try refine Zb h0 ?_); (try refine Z5 h1 ?_); (try refine Zb h2 ?_); (try refine Zb h3 ?_); (try refine Z5 h4 ?_); (try refine Zb h5 ?_); rfl
             exact ⟨trivial, .inl (by first | (rw [hF]; kernel_rfl) | kernel_rfl), by first | (rw [hF]; kernel_rfl) | kernel_rfl⟩
           · have hF : Z7 a0 = ({ a0 with hold := cond (cond (cond a0.hold true (a0.kind == (3 : Int))) true (a0.kind == (4 : Int))) true (a0.kind == (7 : Int)), mode := (1 : Int), phase := (1 : Int) } : XObj) := by unfold Z7; (try refine Zb h0 ?_); (try refine Z5 h1 ?_); (try refine Zb h2 ?_); (try refine Zb h3 ?_); (try refine Z5 h4 ?_); (try refine Z5 h5 ?_); rfl
             exact ⟨trivial, .inl (by first | (rw [hF]; kernel_rfl) | kernel_rfl), by first | (rw [hF]; kernel_rfl) | kernel_rfl⟩
       · refine ⟨fun h4 => ?_, fun h4 => ?_⟩
         · refine ⟨fun h5 => ?_, fun h5 => ?_⟩
           · refine ⟨Z6 (by first | (have hz := hp0; unfold XObj.Fine at hz; omega) | (intros; have hz := hp0; unfold XObj.Fine at hz; omega)) (Z6 (by first | (have hz := hp0; unfold XObj.Fine at hz; omega) | (intros; have hz := hp0; unfold XObj.Fine at hz; omega)) (Z10)), ?_⟩
             have hF : Z7 a0 = ({ a0 with name := attF a0.volume a0.node, hold := cond (cond (cond a0.hold true (a0.kind == (3 : Int))) true (a0.kind == (4 : Int))) true (a0.kind == (7 : Int)), got := a0.size, phase := (1 : Int) } : XObj) := by unfold Z7; (try refine Zb h0 ?_); (try refine Z5 h1 ?_); (try refine Zb h2 ?_); (try refine Z5 h3 ?_); (try refine Zb h4 ?_); (try refine Zb h5 ?_); rfl
             exact ⟨trivial, .inl (by first | (rw [hF]; kernel_rfl) | kernel_rfl), by first | (rw [hF]; kernel_rfl) | kernel_rfl⟩
           · have hF : Z7 a0 = ({ a0 with hold := cond (cond (cond a0.hold true (a0.kind == (3 : Int))) true (a0.kind == (4 : Int))) true (a0.kind == (7 : Int)), got := a0.size, phase := (1 : Int) } : XObj) := by unfold Z7; (try refine Zb h0 ?_); (try refine Z5 h1 ?_); (try refine Zb h2 ?_); (try refine Z5 h3 ?_); (try refine Zb h4 ?_); (try refine Z5 h5 ?_); rfl
             exact ⟨trivial, .inl (by first | (rw [hF]; kernel_rfl) | kernel_rfl), by first | (rw [hF]; kernel_rfl) | kernel_rfl⟩
         · refine ⟨fun h5 => ?_, fun h5 => ?_⟩
           · refine ⟨Z6 (by first | (have hz := hp0; unfold XObj.Fine at hz; omega) | (intros; have hz := hp0; unfold XObj.Fine at hz; omega)) (Z6 (by first | (have hz := hp0; unfold XObj.Fine at hz; omega) | (intros; have hz := hp0; unfold XObj.Fine at hz; omega)) (Z10)), ?_⟩
             have hF : Z7 a0 = ({ a0 with name := attF a0.volume a0.node, hold := cond (cond (cond a0.hold true (a0.kind == (3 : Int))) true (a0.kind == (4 : Int))) true (a0.kind == (7 : Int)), phase := (1 : Int) } : XObj) := by unfold Z7; (try refine Zb h0 ?_); (try refine Z5 h1 ?_); (try refine Zb h2 ?_); (try refine Z5 h3 ?_); (try refine Z5 h4 ?_); (try refine Zb h5 ?_); rfl
             exact ⟨trivial, .inl (by first | (rw [hF]; kernel_rfl) | kernel_rfl), by first | (rw [hF]; kernel_rfl) | kernel_rfl⟩
           · have hF : Z7 a0 = ({ a0 with hold := cond (cond (cond a0.hold true (a0.kind == (3 : Int))) true (a0.kind == (4 : Int))) true (a0.kind == (7 : Int)), phase := (1 : Int) } : XObj) := by unfold Z7; (try refine Zb h0 ?_); (try refine Z5 h1 ?_); (try refine Zb h2 ?_); (try refine Z5 h3 ?_); (try refine Z5 h4 ?_); (try refine Z5 h5 ?_); rfl
             exact ⟨trivial, .inl (by first | (rw [hF]; kernel_rfl) | kernel_rfl), by first | (rw [hF]; kernel_rfl) | kernel_rfl⟩
     · refine ⟨fun h3 => ?_, fun h3 => ?_⟩
       · refine ⟨fun h4 => ?_, fun h4 => ?_⟩
         · refine ⟨fun h5 => ?_, fun h5 => ?_⟩
           · refine ⟨fun h6 => ?_, fun h6 => ?_⟩
             · refine ⟨Z6 (by first | (have hz := hp0; unfold XObj.Fine at hz; omega) | (intros; have hz := hp0; unfold XObj.Fine at hz; omega)) (Z6 (by first | (have hz := hp0; unfold XObj.Fine at hz; omega) | (intros; have hz := hp0; unfold XObj.Fine at hz; omega)) (Z10)), ?_⟩
               have hF : Z7 a0 = ({ a0 with name := attF a0.volume a0.node, hold := cond (cond (cond a0.hold true (a0.kind == (3 : Int))) true (a0.kind == (4 : Int))) true (a0.kind == (7 : Int)), got := a0.size, mode := (1 : Int), phase := (4 : Int) } : XObj) := by unfold Z7; (try refine Zb h0 ?_); (try refine Z5 h1 ?_); (try refine Z5 h2 ?_); (try refine Zb h3 ?_); (try refine Zb h4 ?_); (try refine Zb h5 ?_); (try refine Zb h6 ?_); rfl
               exact ⟨trivial, .inl (by first | (rw [hF]; kernel_rfl) | kernel_rfl), by first | (rw [hF]; kernel_rfl) | kernel_rfl⟩
             · have hF : Z7 a0 = ({ a0 with hold := cond (cond (cond a0.hold true (a0.kind == (3 : Int))) true (a0.kind == (4 : Int))) true (a0.kind == (7 : Int)), got := a0.size, mode := (1 : Int), phase := (4 : Int) } : XObj) := by unfold Z7; (try refine Zb h0 ?_); (try refine Z5 h1 ?_); (try refine Z5 h2 ?_); (try refine Zb h3 ?_); (try refine Zb h4 ?_); (try refine Zb h5 ?_); (try refine Z5 h6 ?_); rfl
               exact ⟨trivial, .inl (by first | (rw [hF]; kernel_rfl) | kernel_rfl), by first | (rw [hF]; kernel_rfl) | kernel_rfl⟩
           · refine ⟨fun h6 => ?_, fun h6 => ?_⟩
             · refine ⟨Z6 (by first | (have hz := hp0; unfold XObj.Fine at hz; omega) | (intros; have hz := hp0; unfold XObj.Fine at hz; omega)) (Z6 (by first | (have hz := hp0; unfold XObj.Fine at hz; omega) | (intros; have hz := hp0; unfold XObj.Fine at hz; omega)) (Z10)), ?_⟩
               have hF : Z7 a0 = ({ a0 with name := attF a0.volume a0.node, hold := cond (cond (cond a0.hold true (a0.kind == (3 : Int))) true (a0.kind == (4 : Int))) true (a0.kind == (7 : Int)), mode := (1 : Int), phase := (4 : Int) } : XObj) := by unfold Z7; (try refine Zb h0 ?_); (try refine Z5 h1 ?_); (try refine Z5 h2 ?_); (try refine Zb h3 ?_); (try refine Zb h4 ?_); (try refine Z5 h5 ?_); (try refine Zb h6 ?_); rfl
               exact ⟨trivial, .inl (by first | (rw [hF]; kernel_rfl) | kernel_rfl), by first | (rw [hF]; kernel_rfl) | kernel_rfl⟩
             · have hF : Z7 a0 = ({ a0 with hold := cond (cond (cond a0.hold true (a0.kind == (3 : Int))) true (a0.kind == (4 : Int))) true (a0.kind == (7 : Int)), mode := (1 : Int), phase := (4 : Int) } : XObj) := by unfold Z7; (try refine Zb h0 ?_); (try refine Z5 h1 ?_); (try refine Z5 h2 ?_); (try refine Zb h3 ?_); (try refine Zb h4 ?_); (try refine Z5 h5 ?_); (try refine Z5 h6 ?_); rfl
               exact ⟨trivial, .inl (by first | (rw [hF]; kernel_rfl) | kernel_rfl), by first | (rw [hF]; kernel_rfl) | kernel_rfl⟩
         · refine ⟨fun h5 => ?_, fun h5 => ?_⟩
           · refine ⟨fun h6 => ?_, fun h6 => ?_⟩
             · refine ⟨Z6 (by first | (have hz := hp0; unfold XObj.Fine at hz; omega) | (intros; have hz := hp0; unfold XObj.Fine at hz; omega)) (Z6 (by first | (have hz := hp0; unfold XObj.Fine at hz; omega) | (intros; have hz := hp0; unfold XObj.Fine at hz; omega)) (Z10)), ?_⟩
               have hF : Z7 a0 = ({ a0 with name := attF a0.volume a0.node, hold := cond (cond (cond a0.hold true (a0.kind == (3 : Int))) true (a0.kind == (4 : Int))) true (a0.kind == (7 : Int)), got := a0.size, phase := (4 : Int) } : XObj) := by unfold Z7; (try refine Zb h0 ?_); (try refine Z5 h1 ?_); (try refine Z5 h2 ?_); (try refine Zb h3 ?_); (try refine Z5 h4 ?_); (try refine Zb h5 ?_); (try refine Zb h6 ?_); rfl
               exact ⟨trivial, .inl (by first | (rw [hF]; kernel_rfl) | kernel_rfl), by first | (rw [hF]; kernel_rfl) | kernel_rfl⟩
             · have hF : Z7 a0 = ({ a0 with hold := cond (cond (cond a0.hold true (a0.kind == (3 : Int))) true (a0.kind == (4 : Int))) true (a0.kind == (7 : Int)), got := a0.size, phase := (4 : Int) } : XObj) := by unfold Z7; (try refine Zb h0 ?_); (try refine Z5 h1 ?_); (try refine Z5 h2 ?_); (try refine Zb h3 ?_); (try refine Z5 h4 ?_); (try refine Zb h5 ?_); (try refine Z5 h6 ?_); rfl
               exact ⟨trivial, .inl (by first | (rw [hF]; kernel_rfl) | kernel_rfl), by first | (rw [hF]; kernel_rfl) | kernel_rfl⟩
           · refine ⟨fun h6 => ?_, fun h6 => ?_⟩
             · refine ⟨Z6 (by first | (have hz := hp0; unfold XObj.Fine at hz; omega) | (intros; have hz := hp0; unfold XObj.Fine at hz; omega)) (Z6 (by first | (have hz := hp0; unfold XObj.Fine at hz; omega) | (intros; have hz := hp0; unfold XObj.Fine at hz; omega)) (Z10)), ?_⟩
               have hF : Z7 a0 = ({ a0 with name := attF a0.volume a0.node, hold := cond (cond (cond a0.hold true (a0.kind == (3 : Int))) true (a0.kind == (4 : Int))) true (a0.kind == (7 : Int)), phase := (4 : Int) } : XObj) := by unfold Z7; (try refine Zb h0 ?_); (try refine Z5 h1 ?_); (try refine Z5 h2 ?_); (try refine Zb h3 ?_); (try refine Z5 h4 ?_); (try refine Z5 h5 ?_); (try refine Zb h6 ?_); rfl
               exact ⟨trivial, .inl (by first | (rw [hF]; kernel_rfl) | kernel_rfl), by first | (rw [hF]; kernel_rfl) | kernel_rfl⟩
             · have hF : Z7 a0 = ({ a0 with hold := cond (cond (cond a0.hold true (a0.kind == (3 : Int))) true (a0.kind == (4 : Int))) true (a0.kind == (7 : Int)), phase := (4 : Int) } : XObj) := by unfold Z7; (try refine Zb h0 ?_); (try refine Z5 h1 ?_); (try refine Z5 h2 ?_); (try refine Zb h3 ?_); (try refine Z5 h4 ?_); (try refine Z5 h5 ?_); (try refine Z5 h6 ?_); rfl
               exact ⟨trivial, .inl (by first | (rw [hF]; kernel_rfl) | kernel_rfl), by first | (rw [hF]; kernel_rfl) | kernel_rfl⟩
       · refine ⟨fun h4 => ?_, fun h4 => ?_⟩
         · refine ⟨fun h5 => ?_, fun h5 => ?_⟩
           · refine ⟨fun h6 => ?_, fun h6 => ?_⟩
             · refine ⟨Z6 (by first | (have hz := hp0; unfold XObj.Fine at hz; omega) | (intros; have hz := hp0; unfold XObj.Fine at hz; omega)) (Z6 (by first | (have hz := hp0; unfold XObj.Fine at hz; omega) | (intros; have hz := hp0; unfold XObj.Fine at hz; omega)) (Z10)), ?_⟩
               have hF : Z7 a0 = ({ a0 with name := attF a0.volume a0.node, hold := cond (cond (cond a0.hold true (a0.kind == (3 : Int))) true (a0.kind == (4 : Int))) true (a0.kind == (7 : Int)), got := a0.size, mode := (1 : Int) } : XObj) := by unfold Z7; (try refine Zb h0 ?_); (try refine Z5 h1 ?_); (try refine Z5 h2 ?_); (try refine Z5 h3 ?_); (try refine Zb h4 ?_); (try refine Zb h5 ?_); (try refine Zb h6 ?_); rfl
               exact ⟨trivial, .inl (by first | (rw [hF]; kernel_rfl) | kernel_rfl), by first | (rw [hF]; kernel_rfl) | kernel_rfl⟩
             · have hF : Z7 a0 = ({ a0 with hold := cond (cond (cond a0.hold true (a0.kind == (3 : Int))) true (a0.kind == (4 : Int))) true (a0.kind == (7 : Int)), got := a0.size, mode := (1 : Int) } : XObj) := by unfold Z7; (try refine Zb h0 ?_); (try refine Z5 h1 ?_); (try refine Z5 h2 ?_); (try refine Z5 h3 ?_); (try refine Zb h4 ?_); (try refine Zb h5 ?_); (try refine Z5 h6 ?_); rfl
               exact ⟨trivial, .inl (by first | (rw [hF]; kernel_rfl) | kernel_rfl), by first | (rw [hF]; kernel_rfl) | kernel_rfl⟩
           · refine ⟨fun h6 => ?_, fun h6 => ?_⟩
             · refine ⟨Z6 (by first | (have hz := hp0; unfold XObj.Fine at hz; omega) | (intros; have hz := hp0; unfold XObj.Fine at hz; omega)) (Z6 (by first | (have hz := hp0; unfold XObj.Fine at hz; omega) | (intros; have hz := hp0; unfold XObj.Fine at hz; omega)) (Z10)), ?_⟩
               have hF : Z7 a0 = ({ a0 with name := attF a0.volume a0.node, hold := cond (cond (cond a0.hold true (a0.kind == (3 : Int))) true (a0.kind == (4 : Int))) true (a0.kind == (7 : Int)), mode := (1 : Int) } : XObj) := by unfold Z7; (try refine Zb h0 ?_); (try refine Z5 h1 ?_); (try refine Z5 h2 ?_); (try refine Z5 h3 ?_); (try refine Zb h4 ?_); (try refine Z5 h5 ?_); (try refine Zb h6 ?_); rfl
               exact ⟨trivial, .inl (by first | (rw [hF]; kernel_rfl) | kernel_rfl), by first | (rw [hF]; kernel_rfl) | kernel_rfl⟩
             · have hF : Z7 a0 = ({ a0 with hold := cond (cond (cond a0.hold true (a0.kind == (3 : Int))) true (a0.kind == (4 : Int))) true (a0.kind == (7 : Int)), mode := (1 : Int) } : XObj) := by unfold Z7; (try refine Zb h0 ?_); (try refine Z5 h1 ?_); (try refine Z5 h2 ?_); (try refine Z5 h3 ?_); (try refine Zb h4 ?_); (try refine Z5 h5 ?_); (try refine Z5 h6 ?_); rfl
               exact ⟨trivial, .inl (by first | (rw [hF]; kernel_rfl) | kernel_rfl), by first | (rw [hF]; kernel_rfl) | kernel_rfl⟩
         · refine ⟨fun h5 => ?_, fun h5 => ?_⟩
           · refine ⟨fun h6 => ?_, fun h6 => ?_⟩
             · refine ⟨Z6 (by first | (have hz := hp0; unfold XObj.Fine at hz; omega) | (intros; have hz := hp0; unfold XObj.Fine at hz; omega)) (Z6 (by first | (have hz := hp0; unfold XObj.Fine at hz; omega) | (intros; have hz := hp0; unfold XObj.Fine at hz; omega)) (Z10)), ?_⟩
               have hF : Z7 a0 = ({ a0 with name := attF a0.volume a0.node, hold := cond (cond (cond a0.hold true (a0.kind == (3 : Int))) true (a0.kind == (4 : Int))) true (a0.kind == (7 : Int)), got := a0.size } : XObj) := by unfold Z7; (try refine Zb h0 ?_); (try refine Z5 h1 ?_); (try refine Z5 h2 ?_); (try refine Z5 h3 ?_); (try refine Z5 h4 ?_); (try refine Zb h5 ?_); (try refine Zb h6 ?_); rfl
               exact ⟨trivial, .inl (by first | (rw [hF]; kernel_rfl) | kernel_rfl), by first | (rw [hF]; kernel_rfl) | kernel_rfl⟩
             · have hF : Z7 a0 = ({ a0 with hold := cond (cond (cond a0.hold true (a0.kind == (3 : Int))) true (a0.kind == (4 : Int))) true (a0.kind == (7 : Int)), got := a0.size } : XObj) := by unfold Z7; (try refine Zb h0 ?_); (try refine Z5 h1 ?_); (try refine Z5 h2 ?_); (try refine Z5 h3 ?_); (try refine Z5 h4 ?_); (try refine Zb h5 ?_); (try refine Z5 h6 ?_); rfl
               exact ⟨trivial, .inl (by first | (rw [hF]; kernel_rfl) | kernel_rfl), by first | (rw [hF]; kernel_rfl) | kernel_rfl⟩
           · refine ⟨fun h6 => ?_, fun h6 => ?_⟩
             · refine ⟨Z6 (by first | (have hz := hp0; unfold XObj.Fine at hz; omega) | (intros; have hz := hp0; unfold XObj.Fine at hz; omega)) (Z6 (by first | (have hz := hp0; unfold XObj.Fine at hz; omega) | (intros; have hz := hp0; unfold XObj.Fine at hz; omega)) (Z10)), ?_⟩
               have hF : Z7 a0 = ({ a0 with name := attF a0.volume a0.node, hold := cond (cond (cond a0.hold true (a0.kind == (3 : Int))) true (a0.kind == (4 : Int))) true (a0.kind == (7 : Int)) } : XObj) := by unfold Z7; (try refine Zb h0 ?_); (try refine Z5 h1 ?_); (try refine Z5 h2 ?_); (try refine Z5 h3 ?_); (try refine Z5 h4 ?_); (try refine Z5 h5 ?_); (try refine Zb h6 ?_); rfl
               exact ⟨trivial, .inl (by first | (rw [hF]; kernel_rfl) | kernel_rfl), by first | (rw [hF]; kernel_rfl) | kernel_rfl⟩
             · have hF : Z7 a0 = ({ a0 with hold := cond (cond (cond a0.hold true (a0.kind == (3 : Int))) true (a0.kind == (4 : Int))) true (a0.kind == (7 : Int)) } : XObj) := by unfold Z7; (try refine Zb h0 ?_); (try refine Z5 h1 ?_); (try refine Z5 h2 ?_); (try refine Z5 h3 ?_); (try refine Z5 h4 ?_); (try refine Z5 h5 ?_); (try refine Z5 h6 ?_); rfl
               exact ⟨trivial, .inl (by first | (rw [hF]; kernel_rfl) | kernel_rfl), by first | (rw [hF]; kernel_rfl) | kernel_rfl⟩
 · refine ⟨fun h1 => ?_, fun h1 => ?_⟩
   · refine ⟨fun h2 => ?_, fun h2 => ?_⟩
     · refine ⟨fun h3 => ?_, fun h3 => ?_⟩
       · refine ⟨Z6 (by first | (have hz := hp0; unfold XObj.Fine at hz; omega) | (intros; have hz := hp0; unfold XObj.Fine at hz; omega)) (Z6 (by first | (have hz := hp0; unfold XObj.Fine at hz; omega) | (intros; have hz := hp0; unfold XObj.Fine at hz; omega)) (Z10)), ?_⟩
         have hF : Z7 a0 = ({ a0 with name := attF a0.volume a0.node, hold := cond (cond (cond a0.hold true (a0.kind == (3 : Int))) true (a0.kind == (4 : Int))) true (a0.kind == (7 : Int)), got := a0.size, mode := (1 : Int) } : XObj) := by unfold Z7; (try refine Z5 h0 ?_); (try refine Zb h1 ?_); (try refine Zb h2 ?_); (try refine Zb h3 ?_); rfl
         exact ⟨trivial, .inl (by first | (rw [hF]; kernel_rfl) | kernel_rfl), by first | (rw [hF]; kernel_rfl) | kernel_rfl⟩
       · have hF : Z7 a0 = ({ a0 with hold := cond (cond (cond a0.hold true (a0.kind == (3 : Int))) true (a0.kind == (4 : Int))) true (a0.kind == (7 : Int)), got := a0.size, mode := (1 : Int) } : XObj) := by unfold Z7; (try refine Z5 h0 ?_); (try refine Zb h1 ?_); (try refine Zb h2 ?_); (try refine Z5 h3 ?_); rfl
         exact ⟨trivial, .inl (by first | (rw [hF]; kernel_rfl) | kernel_rfl), by first | (rw [hF]; kernel_rfl) | kernel_rfl⟩
     · refine ⟨fun h3 => ?_, fun h3 => ?_⟩
       · refine ⟨Z6 (by first | (have hz := hp0; unfold XObj.Fine at hz; omega) | (intros; have hz := hp0; unfold XObj.Fine at hz; omega)) (Z6 (by first | (have hz := hp0; unfold XObj.Fine at hz; omega) | (intros; have hz := hp0; unfold XObj.Fine at hz; omega)) (Z10)), ?_⟩
         have hF : Z7 a0 = ({ a0 with name := attF a0.volume a0.node, hold := cond (cond (cond a0.hold true (a0.kind == (3 : Int))) true (a0.kind == (4 : Int))) true (a0.kind == (7 : Int)), mode := (1 : Int) } : XObj) := by unfold Z7; (try refine Z5 h0 ?_); (try refine Zb h1 ?_); (try refine Z5 h2 ?_); (try refine Zb h3 ?_); rfl
         exact ⟨trivial, .inl (by first | (rw [hF]; kernel_rfl) | kernel_rfl), by first | (rw [hF]; kernel_rfl) | kernel_rfl⟩
       · have hF : Z7 a0 = ({ a0 with hold := cond (cond (cond a0.hold true (a0.kind == (3 : Int))) true (a0.kind == (4 : Int))) true (a0.kind == (7 : Int)), mode := (1 : Int) } : XObj) := by unfold Z7; (try refine Z5 h0 ?_); (try refine Zb h1 ?_); (try refine Z5 h2 ?_); (try refine Z5 h3 ?_); rfl
         exact ⟨trivial, .inl (by first | (rw [hF]; kernel_rfl) | kernel_rfl), by first | (rw [hF]; kernel_rfl) | kernel_rfl⟩
   · refine ⟨fun h2 => ?_, fun h2 => ?_⟩
     · refine ⟨fun h3 => ?_, fun h3 => ?_⟩
       · refine ⟨Z6 (by first | (have hz := hp0; unfold XObj.Fine at hz; omega) | (intros; have hz := hp0; unfold XObj.Fine at hz; omega)) (Z6 (by first | (have hz := hp0; unfold XObj.Fine at hz; omega) | (intros; have hz := hp0; unfold XObj.Fine at hz; omega)) (Z10)), ?_⟩
         have hF : Z7 a0 = ({ a0 with name := attF a0.volume a0.node, hold := cond (cond (cond a0.hold true (a0.kind == (3 : Int))) true (a0.kind == (4 : Int))) true (a0.kind == (7 : Int)), got := a0.size } : XObj) := by unfold Z7; (try refine Z5 h0 ?_); (try refine Z5 h1 ?_); (try refine Zb h2 ?_); (try refine Zb h3 ?_); rfl
         exact ⟨trivial, .inl (by first | (rw [hF]; kernel_rfl) | kernel_rfl), by first | (rw [hF]; kernel_rfl) | kernel_rfl⟩
       · have hF : Z7 a0 = ({ a0 with hold := cond (cond (cond a0.hold true (a0.kind == (3 : Int))) true (a0.kind == (4 : Int))) true (a0.kind == (7 : Int)), got := a0.size } : XObj) := by unfold Z7; (try refine Z5 h0 ?_); (try refine Z5 h1 ?_); (try refine Zb h2 ?_); (try refine Z5 h3 ?_); rfl
         exact ⟨trivial, .inl (by first | (rw [hF]; kernel_rfl) | kernel_rfl), by first | (rw [hF]; kernel_rfl) | kernel_rfl⟩
     · refine ⟨fun h3 => ?_, fun h3 => ?_⟩
       · refine ⟨Z6 (by first | (have hz := hp0; unfold XObj.Fine at hz; omega) | (intros; have hz := hp0; unfold XObj.Fine at hz; omega)) (Z6 (by first | (have hz := hp0; unfold XObj.Fine at hz; omega) | (intros; have hz := hp0; unfold XObj.Fine at hz; omega)) (Z10)), ?_⟩
         have hF : Z7 a0 = ({ a0 with name := attF a0.volume a0.node, hold := cond (cond (cond a0.hold true (a0.kind == (3 : Int))) true (a0.kind == (4 : Int))) true (a0.kind == (7 : Int)) } : XObj) := by unfold Z7; (try refine Z5 h0 ?_); (try refine Z5 h1 ?_); (try refine Z5 h2 ?_); (try refine Zb h3 ?_); rfl
         exact ⟨trivial, .inl (by first | (rw [hF]; kernel_rfl) | kernel_rfl), by first | (rw [hF]; kernel_rfl) | kernel_rfl⟩
       · have hF : Z7 a0 = ({ a0 with hold := cond (cond (cond a0.hold true (a0.kind == (3 : Int))) true (a0.kind == (4 : Int))) true (a0.kind == (7 : Int)) } : XObj) := by unfold Z7; (try refine Z5 h0 ?_); (try refine Z5 h1 ?_); (try refine Z5 h2 ?_); (try refine Z5 h3 ?_); rfl
         exact ⟨trivial, .inl (by first | (rw [hF]; kernel_rfl) | kernel_rfl), by first | (rw [hF]; kernel_rfl) | kernel_rfl⟩
noncomputable def Z1e8 : Fact Tryz.prog := Z50 30 Tryz.f30 (by kernel_rfl) rfl (by kernel_rfl) [.st .obj] [] true (fun t u => .agg (oc (Z7 t.1))) (fun t u => []) (fun t u => [t.1.Fine])
 (fun _ _ _ => rfl) (fun t u => by kernel_rfl) (fun t u => by kernel_rfl) (fun t u h => Z209 t.1 (h _ List.mem_cons_self))
end Go.Proofs.YtkledlcmhbjadaaGreatDoor
