/- Data: the world that is told of. -/
import Derived.Test.YtondcpkhedjajaaDoorDSnap
set_option maxRecDepth 100000
namespace Go.Proofs.YtondcpkhedjajaaDoor
open Go Go.Eng
noncomputable def E_w14_world : Env := envOf (P := Tryd.prog) [] [] [] ckf
def w14_worldF (a0 : Int) (a1 : Int) : List XObj :=
  [({ (default : XObj) with kind := (3 : Int), name := (⟨#[99]⟩ : ByteArray), cls := (⟨#[102]⟩ : ByteArray), size := a0, got := a1, mode := (1 : Int), volume := (⟨#[118]⟩ : ByteArray), phase := (3 : Int) } : XObj), ({ (default : XObj) with kind := (4 : Int), name := (⟨#[118]⟩ : ByteArray), cls := (⟨#[102]⟩ : ByteArray), size := (4 : Int), got := (4 : Int), mode := (1 : Int), zone := (⟨#[122]⟩ : ByteArray), claim := (⟨#[99, 35, 49]⟩ : ByteArray), phase := (3 : Int) } : XObj), ({ (default : XObj) with kind := (7 : Int), name := (⟨#[115]⟩ : ByteArray), born := (3 : Int), source := (⟨#[99]⟩ : ByteArray), phase := (1 : Int) } : XObj)]
def w14_worldR (a0 : Int) (a1 : Int) : RT :=
  (.leaf .ret ⟨slots 11 [(4, .vec 0)], [.vec false ⟨.obj, [({ (default : XObj) with kind := (3 : Int), name := (⟨#[99]⟩ : ByteArray), cls := (⟨#[102]⟩ : ByteArray), size := a0, got := a1, mode := (1 : Int), volume := (⟨#[118]⟩ : ByteArray), phase := (3 : Int) } : XObj), ({ (default : XObj) with kind := (4 : Int), name := (⟨#[118]⟩ : ByteArray), cls := (⟨#[102]⟩ : ByteArray), size := (4 : Int), got := (4 : Int), mode := (1 : Int), zone := (⟨#[122]⟩ : ByteArray), claim := (⟨#[99, 35, 49]⟩ : ByteArray), phase := (3 : Int) } : XObj), ({ (default : XObj) with kind := (7 : Int), name := (⟨#[115]⟩ : ByteArray), born := (3 : Int), source := (⟨#[99]⟩ : ByteArray), phase := (1 : Int) } : XObj)]⟩]⟩ [1])
theorem w14_worldF_tr (a0 : Int) (a1 : Int)  : Tr Tryd.prog 0 (bodyOf Tryd.f25) (fnBegins Tryd.f25 [.int .i64 a0, .int .i64 a1] []) (fnEnds Tryd.prog Tryd.f25 (.vec 0) [.vec false ⟨.obj, w14_worldF a0 a1⟩]) := by
  refine Tr_tree (kok _ _ _ _ _) (E := E_w14_world) (L := noLoops) 60 9999 LoopsOk.none (w14_worldR a0 a1) (by kernel_rfl) (by kernel_rfl) (by kernel_rfl) ?_
  unfold w14_worldR
  exact ⟨trivial, .inl (by kernel_rfl), by kernel_rfl⟩
noncomputable def w14_world_fact : Fact Tryd.prog := factOf 25 Tryd.f25 (by kernel_rfl) rfl (by kernel_rfl) [.c (.int .i64), .c (.int .i64)] [] false (fun t u => .vec 0) (fun t u => [.vec false ⟨.obj, w14_worldF t.1 t.2.1⟩]) (fun t u => [])
  (nofun) (fun t u => by kernel_rfl) (fun t u => by kernel_rfl) (fun t u h => w14_worldF_tr t.1 t.2.1 )
end Go.Proofs.YtondcpkhedjajaaDoor
