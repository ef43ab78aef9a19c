/- The client: another one with the same. -/
import Derived.Test.YtpffbkbadnhmmaaDCallC
import Derived.Test.YtpffbkbadnhmmaaDFork
set_option linter.unusedVariables false
set_option linter.unusedSimpArgs false
set_option maxRecDepth 100000
namespace Go.Proofs.Ytpffbkbadnhmmaa
open Go Go.Eng
noncomputable def Z1fd : Env := Z62 (P := Try.prog) [dD_Fork_fact, cloneA_fact] [] [] ckf true
def Z18 (b2 : LK) (b3 : LA) (b4 : LB) (b5 : LC) (b6 : LD) : LK × LA × LB × LC × LD :=
 (b2, b3, b4, b5, b6)
def Z123 (b2 : LK) (b3 : LA) (b4 : LB) (b5 : LC) (b6 : LD) : RT :=
 (.ask false
   .fail
   (.need [b2.length ≤ 1000000]
     (.leaf .ret ⟨Z9 20 [(2, .ptr 7 0)], (.cells 143 [.ptr 1 0, .vec 2] :: .cells 102 [.map 3, .map 4, .map 5, .map 6] :: .vec false ⟨.call, b2⟩ :: oM b3 b4 b5 b6 (.cells 143 [.ptr 8 0, .vec 9] :: .cells 102 [.map 10, .map 11, .map 12, .map 13] :: .vec false ⟨.call, b2⟩ :: oM b3 b4 b5 b6 []))⟩ [0, 1, 2, 3, 4, 5, 6, 14, 7, 12, 8, 9, 10, 11])))
theorem Z199 (b2 : LK) (b3 : LA) (b4 : LB) (b5 : LC) (b6 : LD) (hp0 : b2.length ≤ 1000000) : Tr Try.prog 7 (Z3b Try.f45) (Z25 Try.f45 [.ptr 0 0] (.cells 143 [.ptr 1 0, .vec 2] :: .cells 102 [.map 3, .map 4, .map 5, .map 6] :: .vec false ⟨.call, b2⟩ :: oM b3 b4 b5 b6 [])) (Z46 Try.prog Try.f45 (.ptr 7 0) (.cells 143 [.ptr 1 0, .vec 2] :: .cells 102 [.map 3, .map 4, .map 5, .map 6] :: .vec false ⟨.call, b2⟩ :: oM b3 b4 b5 b6 (.cells 143 [.ptr 8 0, .vec 9] :: .cells 102 [.map 10, .map 11, .map 12, .map 13] :: .vec false ⟨.call, (Z18 b2 b3 b4 b5 b6).1⟩ :: oM ((Z18 b2 b3 b4 b5 b6).2.1) ((Z18 b2 b3 b4 b5 b6).2.2.1) ((Z18 b2 b3 b4 b5 b6).2.2.2.1) ((Z18 b2 b3 b4 b5 b6).2.2.2.2) []))) := by
 refine Z2f (kok _ _ _ _ _ _) (E := Z1fd) (L := Z30) 60 9999 Z13.none (Z123 b2 b3 b4 b5 b6) (by kernel_rfl) (by kernel_rfl) (by kernel_rfl) ?_
 unfold Z123
 refine ⟨fun h0 => ?_, fun h0 => ?_⟩
 · exact absurd h0 (by simp)
 · refine ⟨Z2 (by assumption) (Z7), ?_⟩
   have hF : Z18 b2 b3 b4 b5 b6 = (b2, b3, b4, b5, b6) := by first | exact rfl | simp only [Z18, h0, cond_true, cond_false]
   exact ⟨trivial, .inl (by (try rw [hF]); kernel_rfl), by (try rw [hF]); kernel_rfl⟩
noncomputable def Z14d : Fact Try.prog := Z4f 45 Try.f45 (by kernel_rfl) rfl (by kernel_rfl) [.c (.ptr 0 0)] [.cells 143 [.ptr 1 0, .vec 2], .cells 102 [.map 3, .map 4, .map 5, .map 6], .vec false .call, .map .str (.int .i64), .vols, .map .str .sn, .map .tgt .done] false (fun t u => .ptr 7 0) (fun t u => (.cells 143 [.ptr 1 0, .vec 2] :: .cells 102 [.map 3, .map 4, .map 5, .map 6] :: .vec false ⟨.call, u.2.2.1⟩ :: oM (u.2.2.2.1) (u.2.2.2.2.1) (u.2.2.2.2.2.1) (u.2.2.2.2.2.2.1) (.cells 143 [.ptr 8 0, .vec 9] :: .cells 102 [.map 10, .map 11, .map 12, .map 13] :: .vec false ⟨.call, (Z18 u.2.2.1 u.2.2.2.1 u.2.2.2.2.1 u.2.2.2.2.2.1 u.2.2.2.2.2.2.1).1⟩ :: oM ((Z18 u.2.2.1 u.2.2.2.1 u.2.2.2.2.1 u.2.2.2.2.2.1 u.2.2.2.2.2.2.1).2.1) ((Z18 u.2.2.1 u.2.2.2.1 u.2.2.2.2.1 u.2.2.2.2.2.1 u.2.2.2.2.2.2.1).2.2.1) ((Z18 u.2.2.1 u.2.2.2.1 u.2.2.2.2.1 u.2.2.2.2.2.1 u.2.2.2.2.2.2.1).2.2.2.1) ((Z18 u.2.2.1 u.2.2.2.1 u.2.2.2.2.1 u.2.2.2.2.2.1 u.2.2.2.2.2.2.1).2.2.2.2) []))) (fun t u => [u.2.2.1.length ≤ 1000000])
 (nofun) (fun t u => by kernel_rfl) (fun t u => by kernel_rfl) (fun t u h => Z199 u.2.2.1 u.2.2.2.1 u.2.2.2.2.1 u.2.2.2.2.2.1 u.2.2.2.2.2.2.1 (h _ mS))
noncomputable def Zd9 : Fact Try.prog := Z88 Z14d [.c (.ptr 0 0)] [.cells 143 [.ptr 1 0, .vec 2], .cells 102 [.map 3, .map 4, .map 5, .map 6], .vec false .call, .map .str (.int .i64), .vols, .map .str .sn, .map .tgt .done] (fun t u => .ptr 7 0) (fun t u => (.cells 143 [.ptr 1 0, .vec 2] :: .cells 102 [.map 3, .map 4, .map 5, .map 6] :: .vec false ⟨.call, u.2.2.1⟩ :: oM (u.2.2.2.1) (u.2.2.2.2.1) (u.2.2.2.2.2.1) (u.2.2.2.2.2.2.1) (.cells 143 [.ptr 8 0, .vec 9] :: .cells 102 [.map 10, .map 11, .map 12, .map 13] :: .vec false ⟨.call, (Z18 u.2.2.1 u.2.2.2.1 u.2.2.2.2.1 u.2.2.2.2.2.1 u.2.2.2.2.2.2.1).1⟩ :: oM ((Z18 u.2.2.1 u.2.2.2.1 u.2.2.2.2.1 u.2.2.2.2.2.1 u.2.2.2.2.2.2.1).2.1) ((Z18 u.2.2.1 u.2.2.2.1 u.2.2.2.2.1 u.2.2.2.2.2.1 u.2.2.2.2.2.2.1).2.2.1) ((Z18 u.2.2.1 u.2.2.2.1 u.2.2.2.2.1 u.2.2.2.2.2.1 u.2.2.2.2.2.2.1).2.2.2.1) ((Z18 u.2.2.1 u.2.2.2.1 u.2.2.2.2.1 u.2.2.2.2.2.1 u.2.2.2.2.2.2.1).2.2.2.2) []))) (fun t u => [u.2.2.1.length ≤ 1000000]) rfl [0, 1, 2, 3, 4, 5, 6] (by
 intro t u k hk
 simp only [List.mem_cons, List.not_mem_nil, or_false] at hk
 rcases hk with rfl | rfl | rfl | rfl | rfl | rfl | rfl
 all_goals exact ⟨by decide, rfl⟩)
end Go.Proofs.Ytpffbkbadnhmmaa
