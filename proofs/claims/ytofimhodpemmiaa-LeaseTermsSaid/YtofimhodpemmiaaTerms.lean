/- Leases: LeaseTerms. -/
import Derived.Test.YtofimhodpemmiaaTLoop
set_option maxRecDepth 100000
namespace Go.Proofs.Ytofimhodpemmiaa
open Go Go.Eng

def termslF (l : List XAsk) : Bool :=
  liveF
def termslR (l : List XAsk) : Tree :=
  (.leaf .ret ⟨slots 113 [(2, .bool liveF)], []⟩)
theorem termsl_tr (l : List XAsk) (hlen : l.length < 9223372036854775807) (hask : ∀ i, i < l.length → (l.getD i default).who.size < 9223372036854775807) : Tr Try.prog 0 (bodyOf Try.f4) (fnBegins Try.f4 [.coll (.asks l)] []) (fnEnds Try.prog Try.f4 (.bool (termslF l)) []) := by
  refine Tr_tree (kok _ _ _ _) (E := E11) (L := (fun _ _ => some (termsS l (⟨#[]⟩ : ByteArray) 0 0 0 0, termsT l (⟨#[]⟩ : ByteArray) 0 0 0 0))) 60 9999 (LoopsOk.one (g := loopAt Try.f4 0) (b := 0) (by kernel_rfl) (by kernel_rfl) (Nat.zero_le _) fun Q h => terms_loop l hlen hask ⟨((⟨#[]⟩ : ByteArray), 0, 0, 0, 0), Int.le_refl _, Nat.zero_le _⟩ Q h) (termslR l) (by kernel_rfl) (by kernel_rfl) ?_ (by kernel_rfl) ?_
  · intro o ho; exact absurd ho (by rw [show obl (evCode E11 (fun _ _ => some (termsS l (⟨#[]⟩ : ByteArray) 0 0 0 0, termsT l (⟨#[]⟩ : ByteArray) 0 0 0 0)) 60 9999 (bodyOf Try.f4) (fnBegins Try.f4 [.coll (.asks l)] [])) = [] from by kernel_rfl]; simp)
  · unfold termslR
    exact ⟨trivial, by kernel_rfl, by kernel_rfl⟩
end Go.Proofs.Ytofimhodpemmiaa
