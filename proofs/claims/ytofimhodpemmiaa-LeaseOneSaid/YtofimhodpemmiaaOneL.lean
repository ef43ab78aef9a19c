/- Leases: LeaseOne. -/
import Derived.Test.YtofimhodpemmiaaOLoop
set_option maxRecDepth 100000
namespace Go.Proofs.Ytofimhodpemmiaa
open Go Go.Eng

def onelF (l : List XAsk) : Bool :=
  liveF
def onelR (l : List XAsk) : Tree :=
  (.leaf .ret ⟨slots 112 [(2, .bool liveF)], []⟩)
theorem onel_tr (l : List XAsk) (hlen : l.length < 9223372036854775807) (hask : ∀ i, i < l.length → (l.getD i default).who.size < 9223372036854775807) : Tr Try.prog 0 (bodyOf Try.f3) (fnBegins Try.f3 [.coll (.asks l)] []) (fnEnds Try.prog Try.f3 (.bool (onelF l)) []) := by
  refine Tr_tree (kok _ _ _ _) (E := E11) (L := (fun _ _ => some (outS l (⟨#[]⟩ : ByteArray) 0 0 0 0, outT l (⟨#[]⟩ : ByteArray) 0 0 0 0))) 60 9999 (LoopsOk.one (g := outC) (b := 0) (by kernel_rfl) (by kernel_rfl) (Nat.zero_le _) fun Q h => out_loop l hlen hask ⟨((⟨#[]⟩ : ByteArray), 0, 0, 0, 0), Int.le_refl _, Nat.zero_le _⟩ Q h) (onelR l) (by kernel_rfl) (by kernel_rfl) ?_ (by kernel_rfl) ?_
  · intro o ho; exact absurd ho (by rw [show obl (evCode E11 (fun _ _ => some (outS l (⟨#[]⟩ : ByteArray) 0 0 0 0, outT l (⟨#[]⟩ : ByteArray) 0 0 0 0)) 60 9999 (bodyOf Try.f3) (fnBegins Try.f3 [.coll (.asks l)] [])) = [] from by kernel_rfl]; simp)
  · unfold onelR
    exact ⟨trivial, by kernel_rfl, by kernel_rfl⟩
end Go.Proofs.Ytofimhodpemmiaa
