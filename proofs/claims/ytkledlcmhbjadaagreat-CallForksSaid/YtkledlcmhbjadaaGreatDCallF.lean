/- The client: another one with the same. -/
import Derived.Test.YtkledlcmhbjadaaGreatDCallC
import Derived.Test.YtkledlcmhbjadaaGreatDFork
set_option linter.unusedVariables false
set_option linter.unusedSimpArgs false
set_option maxRecDepth 100000
namespace Go.Proofs.YtkledlcmhbjadaaGreat
open Go Go.Eng
noncomputable def Z205 : Env := Z65 (P := Tryz.prog) [dD_Fork_fact, cloneA_fact] [] [] ckf true
def Z13 (b2 : LK) (b3 : LA) (b4 : LB) (b5 : LC) (b6 : LD) : LK × LA × LB × LC × LD :=
 (b2, b3, b4, b5, b6)
def Z12c (b2 : LK) (b3 : LA) (b4 : LB) (b5 : LC) (b6 : LD) : RT :=
 (.ask false
   .fail
   (.need [b2.length ≤ 1000000]
     (.leaf .ret ⟨Za 20 [(2, .ptr 7 0)], (.cells 61 [.ptr 1 0, .vec 2] :: .cells 87 [.map 3, .map 4, .map 5, .map 6] :: .vec false ⟨.call, b2⟩ :: oM b3 b4 b5 b6 (.cells 61 [.ptr 8 0, .vec 9] :: .cells 87 [.map 10, .map 11, .map 12, .map 13] :: .vec false ⟨.call, b2⟩ :: oM b3 b4 b5 b6 []))⟩ [0, 1, 2, 3, 4, 5, 6, 14, 7, 12, 8, 9, 10, 11])))
theorem Z1a2 (b2 : LK) (b3 : LA) (b4 : LB) (b5 : LC) (b6 : LD) (hp0 : b2.length ≤ 1000000) : Tr Tryz.prog 7 (Z3c Tryz.f9) (Z27 Tryz.f9 [.ptr 0 0] (.cells 61 [.ptr 1 0, .vec 2] :: .cells 87 [.map 3, .map 4, .map 5, .map 6] :: .vec false ⟨.call, b2⟩ :: oM b3 b4 b5 b6 [])) (Z48 Tryz.prog Tryz.f9 (.ptr 7 0) (.cells 61 [.ptr 1 0, .vec 2] :: .cells 87 [.map 3, .map 4, .map 5, .map 6] :: .vec false ⟨.call, b2⟩ :: oM b3 b4 b5 b6 (.cells 61 [.ptr 8 0, .vec 9] :: .cells 87 [.map 10, .map 11, .map 12, .map 13] :: .vec false ⟨.call, (Z13 b2 b3 b4 b5 b6).1⟩ :: oM ((Z13 b2 b3 b4 b5 b6).2.1) ((Z13 b2 b3 b4 b5 b6).2.2.1) ((Z13 b2 b3 b4 b5 b6).2.2.2.1) ((Z13 b2 b3 b4 b5 b6).2.2.2.2) []))) := by
 refine Z2f (kok _ _ _ _ _ _) (E := Z205) (L := Z32) 60 9999 Z14.none (Z12c b2 b3 b4 b5 b6) (by kernel_rfl) (by kernel_rfl) (by kernel_rfl) ?_
 unfold Z12c
 refine ⟨fun h0 => ?_, fun h0 => ?_⟩
 · exact absurd h0 (by simp)
 · refine ⟨Z2 (by assumption) (Z9), ?_⟩
   have hF : Z13 b2 b3 b4 b5 b6 = (b2, b3, b4, b5, b6) := by first | exact rfl | simp only [Z13, h0, cond_true, cond_false]
   exact ⟨trivial, .inl (by (try rw [hF]); kernel_rfl), by (try rw [hF]); kernel_rfl⟩
noncomputable def Z154 : Fact Tryz.prog := Z4b 9 Tryz.f9 (by kernel_rfl) rfl (by kernel_rfl) [.c (.ptr 0 0)] [.cells 61 [.ptr 1 0, .vec 2], .cells 87 [.map 3, .map 4, .map 5, .map 6], .vec false .call, .map .str (.int .i64), .vols, .map .str .sn, .map .tgt .done] false (fun t u => .ptr 7 0) (fun t u => (.cells 61 [.ptr 1 0, .vec 2] :: .cells 87 [.map 3, .map 4, .map 5, .map 6] :: .vec false ⟨.call, u.2.2.1⟩ :: oM (u.2.2.2.1) (u.2.2.2.2.1) (u.2.2.2.2.2.1) (u.2.2.2.2.2.2.1) (.cells 61 [.ptr 8 0, .vec 9] :: .cells 87 [.map 10, .map 11, .map 12, .map 13] :: .vec false ⟨.call, (Z13 u.2.2.1 u.2.2.2.1 u.2.2.2.2.1 u.2.2.2.2.2.1 u.2.2.2.2.2.2.1).1⟩ :: oM ((Z13 u.2.2.1 u.2.2.2.1 u.2.2.2.2.1 u.2.2.2.2.2.1 u.2.2.2.2.2.2.1).2.1) ((Z13 u.2.2.1 u.2.2.2.1 u.2.2.2.2.1 u.2.2.2.2.2.1 u.2.2.2.2.2.2.1).2.2.1) ((Z13 u.2.2.1 u.2.2.2.1 u.2.2.2.2.1 u.2.2.2.2.2.1 u.2.2.2.2.2.2.1).2.2.2.1) ((Z13 u.2.2.1 u.2.2.2.1 u.2.2.2.2.1 u.2.2.2.2.2.1 u.2.2.2.2.2.2.1).2.2.2.2) []))) (fun t u => [u.2.2.1.length ≤ 1000000])
 (nofun) (fun t u => by kernel_rfl) (fun t u => by kernel_rfl) (fun t u h => Z1a2 u.2.2.1 u.2.2.2.1 u.2.2.2.2.1 u.2.2.2.2.2.1 u.2.2.2.2.2.2.1 (h _ mS))
noncomputable def Z17f : Fact Tryz.prog := Z8c Z154 [.c (.ptr 0 0)] [.cells 61 [.ptr 1 0, .vec 2], .cells 87 [.map 3, .map 4, .map 5, .map 6], .vec false .call, .map .str (.int .i64), .vols, .map .str .sn, .map .tgt .done] (fun t u => .ptr 7 0) (fun t u => (.cells 61 [.ptr 1 0, .vec 2] :: .cells 87 [.map 3, .map 4, .map 5, .map 6] :: .vec false ⟨.call, u.2.2.1⟩ :: oM (u.2.2.2.1) (u.2.2.2.2.1) (u.2.2.2.2.2.1) (u.2.2.2.2.2.2.1) (.cells 61 [.ptr 8 0, .vec 9] :: .cells 87 [.map 10, .map 11, .map 12, .map 13] :: .vec false ⟨.call, (Z13 u.2.2.1 u.2.2.2.1 u.2.2.2.2.1 u.2.2.2.2.2.1 u.2.2.2.2.2.2.1).1⟩ :: oM ((Z13 u.2.2.1 u.2.2.2.1 u.2.2.2.2.1 u.2.2.2.2.2.1 u.2.2.2.2.2.2.1).2.1) ((Z13 u.2.2.1 u.2.2.2.1 u.2.2.2.2.1 u.2.2.2.2.2.1 u.2.2.2.2.2.2.1).2.2.1) ((Z13 u.2.2.1 u.2.2.2.1 u.2.2.2.2.1 u.2.2.2.2.2.1 u.2.2.2.2.2.2.1).2.2.2.1) ((Z13 u.2.2.1 u.2.2.2.1 u.2.2.2.2.1 u.2.2.2.2.2.1 u.2.2.2.2.2.2.1).2.2.2.2) []))) (fun t u => [u.2.2.1.length ≤ 1000000]) rfl [0, 1, 2, 3, 4, 5, 6] (by
 intro t u k hk
 simp only [List.mem_cons, List.not_mem_nil, or_false] at hk
 rcases hk with rfl | rfl | rfl | rfl | rfl | rfl | rfl
 all_goals exact ⟨by decide, rfl⟩)
end Go.Proofs.YtkledlcmhbjadaaGreat
