/- The law CallPlays. -/
import Derived.Test.YtpffbkbadnhmmaaDPLV
set_option linter.unusedVariables false
set_option linter.unusedSimpArgs false
set_option maxRecDepth 100000
namespace Go.Proofs.Ytpffbkbadnhmmaa
open Go Go.Eng
noncomputable def E_w11_CallPlays : Env := envOf (P := Try.prog) [Za9, Z8f, w11_same_fact] [] [] ckf true
def Zbc (a0 : List XDeed2) : Bool :=
 cond (cond Z5e ((Z0 a0).1) false) (Zc1 ((Z0 a0).2.1) ((Z0 a0).2.2.1) ((Z0 a0).2.2.2.1) ((Z0 a0).2.2.2.2.1) ((Z0 a0).2.2.2.2.2.1) ((Z0 a0).2.2.2.2.2.2.1) ((Z0 a0).2.2.2.2.2.2.2.1) ((Z0 a0).2.2.2.2.2.2.2.2.1) ((Z0 a0).2.2.2.2.2.2.2.2.2.1) ((Z0 a0).2.2.2.2.2.2.2.2.2.2)) false
def Z11b (a0 : List XDeed2) : RT :=
 (.need [∀ x ∈ a0, D2 x]
   (.need [((cond Z5e ((Z0 a0).1) false) = true) → (IC 1000 ((Z0 a0).2.1) ((Z0 a0).2.2.1) ((Z0 a0).2.2.2.1) ((Z0 a0).2.2.2.2.1) ((Z0 a0).2.2.2.2.2.1) ((Z0 a0).2.2.2.2.2.2.1) ((Z0 a0).2.2.2.2.2.2.2.1) ((Z0 a0).2.2.2.2.2.2.2.2.1) ((Z0 a0).2.2.2.2.2.2.2.2.2.1) ((Z0 a0).2.2.2.2.2.2.2.2.2.2))]
     (.leaf .ret ⟨slots 21 [(2, .bool (cond (cond Z5e ((Z0 a0).1) false) (Zc1 ((Z0 a0).2.1) ((Z0 a0).2.2.1) ((Z0 a0).2.2.2.1) ((Z0 a0).2.2.2.2.1) ((Z0 a0).2.2.2.2.2.1) ((Z0 a0).2.2.2.2.2.2.1) ((Z0 a0).2.2.2.2.2.2.2.1) ((Z0 a0).2.2.2.2.2.2.2.2.1) ((Z0 a0).2.2.2.2.2.2.2.2.2.1) ((Z0 a0).2.2.2.2.2.2.2.2.2.2)) false))], []⟩ [])))
theorem Z141 (a0 : List XDeed2) (hp0 : ∀ x ∈ a0, D2 x) : Tr Try.prog 0 (bodyOf Try.f14) (fnBegins Try.f14 [.coll ⟨.deed2, a0⟩] []) (fnEnds Try.prog Try.f14 (.bool (Zbc a0)) []) := by
 refine Tr_tree (kok _ _ _ _ _ _) (E := E_w11_CallPlays) (L := noLoops) 60 9999 Z11.none (Z11b a0) (by kernel_rfl) (by kernel_rfl) (by kernel_rfl) ?_
 unfold Z11b
 refine ⟨Z5 (by (try refine fun (_ : _ = _) => ?_); (try refine fun (_ : _ ∧ _) => ?_); assumption) (Z9), ?_⟩
 refine ⟨Z5 (by (try refine fun (_ : _ = _) => ?_); (try refine fun (_ : _ ∧ _) => ?_); exact ic_play hp0) (Z9), ?_⟩
 exact ⟨trivial, .inl (by kernel_rfl), by kernel_rfl⟩
end Go.Proofs.Ytpffbkbadnhmmaa
