/- Data: the world that is told of. -/
import Derived.Test.YtondcpkhedjajaaDoorDSnap
set_option linter.unusedVariables false
set_option linter.unusedSimpArgs false
set_option maxRecDepth 100000
namespace Go.Proofs.YtondcpkhedjajaaDoor
open Go Go.Eng
noncomputable def E_w14_world : Env := envOf (P := Tryd.prog) [] [] [] ckf
def w14_worldF (a0 : Int) (a1 : Int) : List XObj :=
  [(⟨(3 : Int), (⟨#[99]⟩ : ByteArray), (0 : Int), (0 : Int), false, false, (⟨#[102]⟩ : ByteArray), a0, a1, (1 : Int), false, false, (⟨#[]⟩ : ByteArray), (⟨#[]⟩ : ByteArray), (⟨#[]⟩ : ByteArray), (⟨#[118]⟩ : ByteArray), (⟨#[]⟩ : ByteArray), (3 : Int), (0 : Int), (0 : Int)⟩ : XObj), (⟨(4 : Int), (⟨#[118]⟩ : ByteArray), (0 : Int), (0 : Int), false, false, (⟨#[102]⟩ : ByteArray), (4 : Int), (4 : Int), (1 : Int), false, false, (⟨#[122]⟩ : ByteArray), (⟨#[]⟩ : ByteArray), (⟨#[99, 35, 49]⟩ : ByteArray), (⟨#[]⟩ : ByteArray), (⟨#[]⟩ : ByteArray), (3 : Int), (0 : Int), (0 : Int)⟩ : XObj), (⟨(7 : Int), (⟨#[115]⟩ : ByteArray), (0 : Int), (3 : Int), false, false, (⟨#[]⟩ : ByteArray), (0 : Int), (0 : Int), (0 : Int), false, false, (⟨#[]⟩ : ByteArray), (⟨#[]⟩ : ByteArray), (⟨#[]⟩ : ByteArray), (⟨#[]⟩ : ByteArray), (⟨#[99]⟩ : ByteArray), (1 : Int), (0 : Int), (0 : Int)⟩ : XObj)]
def w14_worldR (a0 : Int) (a1 : Int) : RT :=
  (.leaf .ret ⟨slots 11 [(4, .vec 0)], [.vec false ⟨.obj, [(⟨(3 : Int), (⟨#[99]⟩ : ByteArray), (0 : Int), (0 : Int), false, false, (⟨#[102]⟩ : ByteArray), a0, a1, (1 : Int), false, false, (⟨#[]⟩ : ByteArray), (⟨#[]⟩ : ByteArray), (⟨#[]⟩ : ByteArray), (⟨#[118]⟩ : ByteArray), (⟨#[]⟩ : ByteArray), (3 : Int), (0 : Int), (0 : Int)⟩ : XObj), (⟨(4 : Int), (⟨#[118]⟩ : ByteArray), (0 : Int), (0 : Int), false, false, (⟨#[102]⟩ : ByteArray), (4 : Int), (4 : Int), (1 : Int), false, false, (⟨#[122]⟩ : ByteArray), (⟨#[]⟩ : ByteArray), (⟨#[99, 35, 49]⟩ : ByteArray), (⟨#[]⟩ : ByteArray), (⟨#[]⟩ : ByteArray), (3 : Int), (0 : Int), (0 : Int)⟩ : XObj), (⟨(7 : Int), (⟨#[115]⟩ : ByteArray), (0 : Int), (3 : Int), false, false, (⟨#[]⟩ : ByteArray), (0 : Int), (0 : Int), (0 : Int), false, false, (⟨#[]⟩ : ByteArray), (⟨#[]⟩ : ByteArray), (⟨#[]⟩ : ByteArray), (⟨#[]⟩ : ByteArray), (⟨#[99]⟩ : ByteArray), (1 : Int), (0 : Int), (0 : Int)⟩ : XObj)]⟩]⟩ [1])
theorem w14_worldF_tr (a0 : Int) (a1 : Int)  : Tr Tryd.prog 0 (bodyOf Tryd.f25) (fnBegins Tryd.f25 [.int .i64 a0, .int .i64 a1] []) (fnEnds Tryd.prog Tryd.f25 (.vec 0) [.vec false ⟨.obj, w14_worldF a0 a1⟩]) := by
  refine Tr_tree (kok _ _ _ _ _) (E := E_w14_world) (L := noLoops) 60 9999 LoopsOk.none (w14_worldR a0 a1) (by kernel_rfl) (by kernel_rfl) (by kernel_rfl) ?_
  unfold w14_worldR
  exact ⟨trivial, .inl (by kernel_rfl), by kernel_rfl⟩
noncomputable def w14_world_fact : Fact Tryd.prog := factOf 25 Tryd.f25 (by kernel_rfl) rfl (by kernel_rfl) [.c (.int .i64), .c (.int .i64)] [] false (fun t u => .vec 0) (fun t u => [.vec false ⟨.obj, w14_worldF t.1 t.2.1⟩]) (fun t u => [])
  (nofun) (fun t u => by kernel_rfl) (fun t u => by kernel_rfl) (fun t u h => w14_worldF_tr t.1 t.2.1 )
end Go.Proofs.YtondcpkhedjajaaDoor
