/- Do two clients hold the same? -/
import Derived.Test.YtpffbkbadnhmmaaDPLV
set_option linter.unusedVariables false
set_option linter.unusedSimpArgs false
set_option maxRecDepth 100000
namespace Go.Proofs.Ytpffbkbadnhmmaa
open Go Go.Eng
noncomputable def E_w11_alike : Env := Z62 (P := Try.prog) [Z175, Zb2, Z192, Z14b, Z1dc] [] [] ckf true
def Ze5 (b3 : LK) (b5 : LK) (b6 : LA) (b7 : LB) (b8 : LC) (b9 : LD) (b10 : LA) (b11 : LB) (b12 : LC) (b13 : LD) : Bool :=
 cond (cond (cond (((Z41 (⟨#[97]⟩ : BA) b3 b6 b7 b8 b9).1) == ((Z41 (⟨#[97]⟩ : BA) b5 b10 b11 b12 b13).1)) (((Z41 (⟨#[98]⟩ : BA) b3 b6 b7 b8 b9).1) == ((Z41 (⟨#[98]⟩ : BA) b5 b10 b11 b12 b13).1)) false) (Z3c (Z1e b3 b6 b7 b8 b9) (Z1e b5 b10 b11 b12 b13)) false) (Z5b (Z5e b3 b6 b7 b8 b9) (Z5e b5 b10 b11 b12 b13)) false
abbrev kCl0 (b3 : LK) (b6 : LA) (b7 : LB) (b8 : LC) (b9 : LD) (b5 : LK) (b10 : LA) (b11 : LB) (b12 : LC) (b13 : LD) := (cond (((Z41 (⟨#[97]⟩ : BA) b3 b6 b7 b8 b9).1) == ((Z41 (⟨#[97]⟩ : BA) b5 b10 b11 b12 b13).1)) (((Z41 (⟨#[98]⟩ : BA) b3 b6 b7 b8 b9).1) == ((Z41 (⟨#[98]⟩ : BA) b5 b10 b11 b12 b13).1)) false)
def w11_alikeR (b3 : LK) (b5 : LK) (b6 : LA) (b7 : LB) (b8 : LC) (b9 : LD) (b10 : LA) (b11 : LB) (b12 : LC) (b13 : LD) : RT :=
 (.need [((kCl0 b3 b6 b7 b8 b9 b5 b10 b11 b12 b13) = true) → (VB b7)]
   (.need [((kCl0 b3 b6 b7 b8 b9 b5 b10 b11 b12 b13) = true) → (VB b11)]
     (.need [((kCl0 b3 b6 b7 b8 b9 b5 b10 b11 b12 b13) = true) → ((Z1e b3 b6 b7 b8 b9).length ≤ 1000), ((kCl0 b3 b6 b7 b8 b9 b5 b10 b11 b12 b13) = true) → (∀ v ∈ (Z1e b3 b6 b7 b8 b9), v.nodes.length ≤ 1000)]
       (.need [((cond (kCl0 b3 b6 b7 b8 b9 b5 b10 b11 b12 b13) (Z3c (Z1e b3 b6 b7 b8 b9) (Z1e b5 b10 b11 b12 b13)) false) = true) → (NK b8)]
         (.need [((cond (kCl0 b3 b6 b7 b8 b9 b5 b10 b11 b12 b13) (Z3c (Z1e b3 b6 b7 b8 b9) (Z1e b5 b10 b11 b12 b13)) false) = true) → (NK b12)]
           (.need [((cond (kCl0 b3 b6 b7 b8 b9 b5 b10 b11 b12 b13) (Z3c (Z1e b3 b6 b7 b8 b9) (Z1e b5 b10 b11 b12 b13)) false) = true) → ((Z5e b3 b6 b7 b8 b9).length ≤ 1000)]
             (.leaf .ret ⟨Z9 55 [(4, .bool (cond (cond (kCl0 b3 b6 b7 b8 b9 b5 b10 b11 b12 b13) (Z3c (Z1e b3 b6 b7 b8 b9) (Z1e b5 b10 b11 b12 b13)) false) (Z5b (Z5e b3 b6 b7 b8 b9) (Z5e b5 b10 b11 b12 b13)) false))], (.cells 143 [.ptr 2 0, .vec 3] :: .cells 143 [.ptr 4 0, .vec 5] :: .cells 102 [.map 6, .map 7, .map 8, .map 9] :: .vec false ⟨.call, b3⟩ :: .cells 102 [.map 10, .map 11, .map 12, .map 13] :: .vec false ⟨.call, b5⟩ :: oM b6 b7 b8 b9 (oM b10 b11 b12 b13 []))⟩ [])))))))
theorem w11_alikeF_tr (b3 : LK) (b5 : LK) (b6 : LA) (b7 : LB) (b8 : LC) (b9 : LD) (b10 : LA) (b11 : LB) (b12 : LC) (b13 : LD) (hp0 : VB b7) (hp1 : VB b11) (hp2 : NK b8) (hp3 : NK b12) (hp4 : (Z4e b6 b7 b8 b9).length ≤ 1000) (hp5 : ∀ v ∈ Z4e b6 b7 b8 b9, v.nodes.length ≤ 1000) (hp6 : (Z89 b6 b7 b8 b9).length ≤ 1000) : Tr Try.prog 14 (Z3b Try.f46) (Z25 Try.f46 [.ptr 0 0, .ptr 1 0] (.cells 143 [.ptr 2 0, .vec 3] :: .cells 143 [.ptr 4 0, .vec 5] :: .cells 102 [.map 6, .map 7, .map 8, .map 9] :: .vec false ⟨.call, b3⟩ :: .cells 102 [.map 10, .map 11, .map 12, .map 13] :: .vec false ⟨.call, b5⟩ :: oM b6 b7 b8 b9 (oM b10 b11 b12 b13 []))) (Z46 Try.prog Try.f46 (.bool (Ze5 b3 b5 b6 b7 b8 b9 b10 b11 b12 b13)) (.cells 143 [.ptr 2 0, .vec 3] :: .cells 143 [.ptr 4 0, .vec 5] :: .cells 102 [.map 6, .map 7, .map 8, .map 9] :: .vec false ⟨.call, b3⟩ :: .cells 102 [.map 10, .map 11, .map 12, .map 13] :: .vec false ⟨.call, b5⟩ :: oM b6 b7 b8 b9 (oM b10 b11 b12 b13 []))) := by
 refine Z2f (kok _ _ _ _ _ _) (E := E_w11_alike) (L := Z30) 60 9999 Z13.none (w11_alikeR b3 b5 b6 b7 b8 b9 b10 b11 b12 b13) (by kernel_rfl) (by kernel_rfl) (by kernel_rfl) ?_
 unfold w11_alikeR
 refine ⟨Z2 (by (try refine fun (_ : _ = _) => ?_); assumption) (Z7), ?_⟩
 refine ⟨Z2 (by (try refine fun (_ : _ = _) => ?_); assumption) (Z7), ?_⟩
 refine ⟨(by (iterate 2 refine Z2 (by (try refine fun (_ : _ = _) => ?_); assumption) ?_); exact Z7), ?_⟩
 refine ⟨Z2 (by (try refine fun (_ : _ = _) => ?_); assumption) (Z7), ?_⟩
 refine ⟨Z2 (by (try refine fun (_ : _ = _) => ?_); assumption) (Z7), ?_⟩
 refine ⟨Z2 (by (try refine fun (_ : _ = _) => ?_); assumption) (Z7), ?_⟩
 exact ⟨trivial, .inl (by kernel_rfl), by kernel_rfl⟩
noncomputable def Z19d : Fact Try.prog := Z4f 46 Try.f46 (by kernel_rfl) rfl (by kernel_rfl) [.c (.ptr 0 0), .c (.ptr 1 0)] [.cells 143 [.ptr 2 0, .vec 3], .cells 143 [.ptr 4 0, .vec 5], .cells 102 [.map 6, .map 7, .map 8, .map 9], .vec false .call, .cells 102 [.map 10, .map 11, .map 12, .map 13], .vec false .call, .map .str (.int .i64), .vols, .map .str .sn, .map .tgt .done, .map .str (.int .i64), .vols, .map .str .sn, .map .tgt .done] true (fun t u => .bool (Ze5 u.2.2.2.1 u.2.2.2.2.2.1 u.2.2.2.2.2.2.1 u.2.2.2.2.2.2.2.1 u.2.2.2.2.2.2.2.2.1 u.2.2.2.2.2.2.2.2.2.1 u.2.2.2.2.2.2.2.2.2.2.1 u.2.2.2.2.2.2.2.2.2.2.2.1 u.2.2.2.2.2.2.2.2.2.2.2.2.1 u.2.2.2.2.2.2.2.2.2.2.2.2.2.1)) (fun t u => HPL.enc _ u) (fun t u => [VB u.2.2.2.2.2.2.2.1, VB u.2.2.2.2.2.2.2.2.2.2.2.1, NK u.2.2.2.2.2.2.2.2.1, NK u.2.2.2.2.2.2.2.2.2.2.2.2.1, (Z4e u.2.2.2.2.2.2.1 u.2.2.2.2.2.2.2.1 u.2.2.2.2.2.2.2.2.1 u.2.2.2.2.2.2.2.2.2.1).length ≤ 1000, ∀ v ∈ Z4e u.2.2.2.2.2.2.1 u.2.2.2.2.2.2.2.1 u.2.2.2.2.2.2.2.2.1 u.2.2.2.2.2.2.2.2.2.1, v.nodes.length ≤ 1000, (Z89 u.2.2.2.2.2.2.1 u.2.2.2.2.2.2.2.1 u.2.2.2.2.2.2.2.2.1 u.2.2.2.2.2.2.2.2.2.1).length ≤ 1000])
 (fun _ _ _ => rfl) (fun t u => by kernel_rfl) (fun t u => by kernel_rfl) (fun t u h => w11_alikeF_tr u.2.2.2.1 u.2.2.2.2.2.1 u.2.2.2.2.2.2.1 u.2.2.2.2.2.2.2.1 u.2.2.2.2.2.2.2.2.1 u.2.2.2.2.2.2.2.2.2.1 u.2.2.2.2.2.2.2.2.2.2.1 u.2.2.2.2.2.2.2.2.2.2.2.1 u.2.2.2.2.2.2.2.2.2.2.2.2.1 u.2.2.2.2.2.2.2.2.2.2.2.2.2.1 (h _ mS) (h _ (mN mS)) (h _ (mN (mN mS))) (h _ (mN (mN (mN mS)))) (h _ (mN (mN (mN (mN mS))))) (h _ (mN (mN (mN (mN (mN mS)))))) (h _ (mN (mN (mN (mN (mN (mN mS))))))))
end Go.Proofs.Ytpffbkbadnhmmaa
