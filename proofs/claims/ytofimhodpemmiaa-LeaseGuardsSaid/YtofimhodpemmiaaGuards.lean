/- Leases: LeaseGuards. -/
import Derived.Test.YtofimhodpemmiaaGLoop
set_option maxRecDepth 100000
namespace Go.Proofs.Ytofimhodpemmiaa
open Go Go.Eng

def guardsF (l : List Int) : Bool :=
  cond (cond liveF (((termF ((forkF (lastF l 0 0)).1)).1) == (lastF l 0 0)) false) (((termF ((checkF ((checkF ((forkF (lastF l 0 0)).2) (lastF l 0 0)).2) (18446744073709551615 : Int)).2)).1) == (18446744073709551615 : Int)) false
def guardsR (l : List Int) : Tree :=
  (.leaf .ret ⟨slots 79 [(2, .bool (cond (cond liveF (((termF ((forkF (lastF l 0 0)).1)).1) == (lastF l 0 0)) false) (((termF ((checkF ((checkF ((forkF (lastF l 0 0)).2) (lastF l 0 0)).2) (18446744073709551615 : Int)).2)).1) == (18446744073709551615 : Int)) false))], []⟩)
theorem guards_tr (l : List Int) (hlen : l.length < 9223372036854775807) : Tr Try.prog 0 (bodyOf Try.f8) (fnBegins Try.f8 [.coll (.ints .u64 l)] []) (fnEnds Try.prog Try.f8 (.bool (guardsF l)) []) := by
  refine Tr_tree (kok _ _ _ _) (E := E9) (L := (fun _ _ => some (grdS l 0 0, grdT l 0 0))) 60 9999 (LoopsOk.one (g := loopAt Try.f8 0) (b := 0) (by kernel_rfl) (by kernel_rfl) (Nat.zero_le _) fun Q h => grd_loop l hlen ⟨(0, 0), Nat.zero_le _⟩ Q h) (guardsR l) (by kernel_rfl) (by kernel_rfl) ?_ (by kernel_rfl) ?_
  · intro o ho; exact absurd ho (by rw [show obl (evCode E9 (fun _ _ => some (grdS l 0 0, grdT l 0 0)) 60 9999 (bodyOf Try.f8) (fnBegins Try.f8 [.coll (.ints .u64 l)] [])) = [] from by kernel_rfl]; simp)
  · unfold guardsR
    exact ⟨trivial, by kernel_rfl, by kernel_rfl⟩
end Go.Proofs.Ytofimhodpemmiaa
