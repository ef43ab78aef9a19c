/- The document's client: another one with the same. -/
import Derived.Test.YtkledlcmhbjadaaGreatDCallR
set_option linter.unusedVariables false
set_option linter.unusedSimpArgs false
set_option maxRecDepth 100000
namespace Go.Proofs.YtkledlcmhbjadaaGreat
open Go Go.Eng
noncomputable def Z292 : Env := Z65 (P := Tryz.prog) [] [] [] ckf true
def Z25f (b2 : LK) (b3 : LZ) (b4 : LV) (b5 : LS) (b6 : LQ) : LK :=
 ([] ++ b2)
def Z276 (b2 : LK) (b3 : LZ) (b4 : LV) (b5 : LS) (b6 : LQ) : RT :=
 (.ask false
   .fail
   (.need [(([] : LK).length + b2.length) * 88 ≤ Z18 ∧ ([] : LK).length + b2.length ≤ maxLen]
     (.leaf .ret ⟨Za 11 [(2, .vec 7)], (.cells 72 [.ptr 1 0, .vec 2] :: .cells 111 [.vec 3, .vec 4, .vec 5, .vec 6] :: .vec false ⟨.call, b2⟩ :: oV b3 b4 b5 b6 [.vec false ⟨.call, ([] ++ b2)⟩])⟩ [0, 1, 2, 3, 4, 5, 6, 9])))
theorem Z284 (b2 : LK) (b3 : LZ) (b4 : LV) (b5 : LS) (b6 : LQ) (hp0 : b2.length ≤ 1000000) : Tr Tryz.prog 7 (Z3c Tryz.f29) (Z27 Tryz.f29 [.ptr 0 0] (.cells 72 [.ptr 1 0, .vec 2] :: .cells 111 [.vec 3, .vec 4, .vec 5, .vec 6] :: .vec false ⟨.call, b2⟩ :: oV b3 b4 b5 b6 [])) (Z48 Tryz.prog Tryz.f29 (.vec 7) (.cells 72 [.ptr 1 0, .vec 2] :: .cells 111 [.vec 3, .vec 4, .vec 5, .vec 6] :: .vec false ⟨.call, b2⟩ :: oV b3 b4 b5 b6 [.vec false ⟨.call, Z25f b2 b3 b4 b5 b6⟩])) := by
 refine Z2f (kok _ _ _ _ _ _) (E := Z292) (L := Z32) 60 9999 Z14.none (Z276 b2 b3 b4 b5 b6) (by kernel_rfl) (by kernel_rfl) (by kernel_rfl) ?_
 unfold Z276
 refine ⟨fun h0 => ?_, fun h0 => ?_⟩
 · exact absurd h0 (by simp)
 · refine ⟨Z2 (by unfold Z18 maxLen; (try simp only [List.length_nil]); omega) (Z9), ?_⟩
   have hF : Z25f b2 b3 b4 b5 b6 = ([] ++ b2) := by first | exact rfl | simp only [Z25f, h0, cond_true, cond_false]
   exact ⟨trivial, .inl (by (try rw [hF]); kernel_rfl), by (try rw [hF]); kernel_rfl⟩
noncomputable def Z27b : Fact Tryz.prog := Z4b 29 Tryz.f29 (by kernel_rfl) rfl (by kernel_rfl) [.c (.ptr 0 0)] [.cells 72 [.ptr 1 0, .vec 2], .cells 111 [.vec 3, .vec 4, .vec 5, .vec 6], .vec false .call, .vec false .zone, .vec false .vol, .vec false .snap, .vec false .done] false (fun t u => .vec 7) (fun t u => (.cells 72 [.ptr 1 0, .vec 2] :: .cells 111 [.vec 3, .vec 4, .vec 5, .vec 6] :: .vec false ⟨.call, u.2.2.1⟩ :: oV (u.2.2.2.1) (u.2.2.2.2.1) (u.2.2.2.2.2.1) (u.2.2.2.2.2.2.1) [.vec false ⟨.call, Z25f u.2.2.1 u.2.2.2.1 u.2.2.2.2.1 u.2.2.2.2.2.1 u.2.2.2.2.2.2.1⟩])) (fun t u => [u.2.2.1.length ≤ 1000000])
 (nofun) (fun t u => by kernel_rfl) (fun t u => by kernel_rfl) (fun t u h => Z284 u.2.2.1 u.2.2.2.1 u.2.2.2.2.1 u.2.2.2.2.2.1 u.2.2.2.2.2.2.1 (h _ mS))
noncomputable def Z280 : Fact Tryz.prog := Z8c Z27b [.c (.ptr 0 0)] [.cells 72 [.ptr 1 0, .vec 2], .cells 111 [.vec 3, .vec 4, .vec 5, .vec 6], .vec false .call, .vec false .zone, .vec false .vol, .vec false .snap, .vec false .done] (fun t u => .vec 7) (fun t u => (.cells 72 [.ptr 1 0, .vec 2] :: .cells 111 [.vec 3, .vec 4, .vec 5, .vec 6] :: .vec false ⟨.call, u.2.2.1⟩ :: oV (u.2.2.2.1) (u.2.2.2.2.1) (u.2.2.2.2.2.1) (u.2.2.2.2.2.2.1) [.vec false ⟨.call, Z25f u.2.2.1 u.2.2.2.1 u.2.2.2.2.1 u.2.2.2.2.2.1 u.2.2.2.2.2.2.1⟩])) (fun t u => [u.2.2.1.length ≤ 1000000]) rfl [0, 1, 2, 3, 4, 5, 6] (by
 intro t u k hk
 simp only [List.mem_cons, List.not_mem_nil, or_false] at hk
 rcases hk with rfl | rfl | rfl | rfl | rfl | rfl | rfl
 all_goals exact ⟨by decide, rfl⟩)
noncomputable def Z29d : Env := Z65 (P := Tryz.prog) [rD_Fork_fact, Z280] [] [] ckf true
def Z259 (b2 : LK) (b3 : LZ) (b4 : LV) (b5 : LS) (b6 : LQ) : LK × LZ × LV × LS × LQ :=
 (Z25f b2 b3 b4 b5 b6, (Z25e b3 b4 b5 b6).1, (Z25e b3 b4 b5 b6).2.1, (Z25e b3 b4 b5 b6).2.2.1, (Z25e b3 b4 b5 b6).2.2.2)
def Z27e (b2 : LK) (b3 : LZ) (b4 : LV) (b5 : LS) (b6 : LQ) : RT :=
 (.ask false
   .fail
   (.need [b3.length ≤ 1000, b4.length ≤ 1000, b5.length ≤ 1000, b6.length ≤ 1000, ∀ v ∈ b4, v.nodes.length ≤ 1000]
     (.need [b2.length ≤ 1000000]
       (.leaf .ret ⟨Za 14 [(2, .ptr 7 0)], (.cells 72 [.ptr 1 0, .vec 2] :: .cells 111 [.vec 3, .vec 4, .vec 5, .vec 6] :: .vec false ⟨.call, b2⟩ :: oV b3 b4 b5 b6 (.cells 72 [.ptr 8 0, .vec 9] :: .cells 111 [.vec 10, .vec 11, .vec 12, .vec 13] :: .vec false ⟨.call, Z25f b2 b3 b4 b5 b6⟩ :: oV ((Z25e b3 b4 b5 b6).1) ((Z25e b3 b4 b5 b6).2.1) ((Z25e b3 b4 b5 b6).2.2.1) ((Z25e b3 b4 b5 b6).2.2.2) []))⟩ [0, 1, 2, 3, 4, 5, 6, 13, 7, 12, 8, 9, 10, 11]))))
theorem Z291 (b2 : LK) (b3 : LZ) (b4 : LV) (b5 : LS) (b6 : LQ) (hp0 : b2.length ≤ 1000000) (hp1 : b3.length ≤ 1000) (hp2 : b4.length ≤ 1000) (hp3 : b5.length ≤ 1000) (hp4 : b6.length ≤ 1000) (hp5 : ∀ v ∈ b4, v.nodes.length ≤ 1000) : Tr Tryz.prog 7 (Z3c Tryz.f13) (Z27 Tryz.f13 [.ptr 0 0] (.cells 72 [.ptr 1 0, .vec 2] :: .cells 111 [.vec 3, .vec 4, .vec 5, .vec 6] :: .vec false ⟨.call, b2⟩ :: oV b3 b4 b5 b6 [])) (Z48 Tryz.prog Tryz.f13 (.ptr 7 0) (.cells 72 [.ptr 1 0, .vec 2] :: .cells 111 [.vec 3, .vec 4, .vec 5, .vec 6] :: .vec false ⟨.call, b2⟩ :: oV b3 b4 b5 b6 (.cells 72 [.ptr 8 0, .vec 9] :: .cells 111 [.vec 10, .vec 11, .vec 12, .vec 13] :: .vec false ⟨.call, (Z259 b2 b3 b4 b5 b6).1⟩ :: oV ((Z259 b2 b3 b4 b5 b6).2.1) ((Z259 b2 b3 b4 b5 b6).2.2.1) ((Z259 b2 b3 b4 b5 b6).2.2.2.1) ((Z259 b2 b3 b4 b5 b6).2.2.2.2) []))) := by
 refine Z2f (kok _ _ _ _ _ _) (E := Z29d) (L := Z32) 60 9999 Z14.none (Z27e b2 b3 b4 b5 b6) (by kernel_rfl) (by kernel_rfl) (by kernel_rfl) ?_
 unfold Z27e
 refine ⟨fun h0 => ?_, fun h0 => ?_⟩
 · exact absurd h0 (by simp)
 · refine ⟨(by (iterate 5 refine Z2 (by assumption) ?_); exact Z9), ?_⟩
   refine ⟨Z2 (by assumption) (Z9), ?_⟩
   have hF : Z259 b2 b3 b4 b5 b6 = (Z25f b2 b3 b4 b5 b6, (Z25e b3 b4 b5 b6).1, (Z25e b3 b4 b5 b6).2.1, (Z25e b3 b4 b5 b6).2.2.1, (Z25e b3 b4 b5 b6).2.2.2) := by first | exact rfl | simp only [Z259, h0, cond_true, cond_false]
   exact ⟨trivial, .inl (by (try rw [hF]); kernel_rfl), by (try rw [hF]); kernel_rfl⟩
noncomputable def Z285 : Fact Tryz.prog := Z4b 13 Tryz.f13 (by kernel_rfl) rfl (by kernel_rfl) [.c (.ptr 0 0)] [.cells 72 [.ptr 1 0, .vec 2], .cells 111 [.vec 3, .vec 4, .vec 5, .vec 6], .vec false .call, .vec false .zone, .vec false .vol, .vec false .snap, .vec false .done] false (fun t u => .ptr 7 0) (fun t u => (.cells 72 [.ptr 1 0, .vec 2] :: .cells 111 [.vec 3, .vec 4, .vec 5, .vec 6] :: .vec false ⟨.call, u.2.2.1⟩ :: oV (u.2.2.2.1) (u.2.2.2.2.1) (u.2.2.2.2.2.1) (u.2.2.2.2.2.2.1) (.cells 72 [.ptr 8 0, .vec 9] :: .cells 111 [.vec 10, .vec 11, .vec 12, .vec 13] :: .vec false ⟨.call, (Z259 u.2.2.1 u.2.2.2.1 u.2.2.2.2.1 u.2.2.2.2.2.1 u.2.2.2.2.2.2.1).1⟩ :: oV ((Z259 u.2.2.1 u.2.2.2.1 u.2.2.2.2.1 u.2.2.2.2.2.1 u.2.2.2.2.2.2.1).2.1) ((Z259 u.2.2.1 u.2.2.2.1 u.2.2.2.2.1 u.2.2.2.2.2.1 u.2.2.2.2.2.2.1).2.2.1) ((Z259 u.2.2.1 u.2.2.2.1 u.2.2.2.2.1 u.2.2.2.2.2.1 u.2.2.2.2.2.2.1).2.2.2.1) ((Z259 u.2.2.1 u.2.2.2.1 u.2.2.2.2.1 u.2.2.2.2.2.1 u.2.2.2.2.2.2.1).2.2.2.2) []))) (fun t u => [u.2.2.1.length ≤ 1000000, u.2.2.2.1.length ≤ 1000, u.2.2.2.2.1.length ≤ 1000, u.2.2.2.2.2.1.length ≤ 1000, u.2.2.2.2.2.2.1.length ≤ 1000, ∀ v ∈ u.2.2.2.2.1, v.nodes.length ≤ 1000])
 (nofun) (fun t u => by kernel_rfl) (fun t u => by kernel_rfl) (fun t u h => Z291 u.2.2.1 u.2.2.2.1 u.2.2.2.2.1 u.2.2.2.2.2.1 u.2.2.2.2.2.2.1 (h _ mS) (h _ (mN mS)) (h _ (mN (mN mS))) (h _ (mN (mN (mN mS)))) (h _ (mN (mN (mN (mN mS))))) (h _ (mN (mN (mN (mN (mN mS)))))))
noncomputable def Z28a : Fact Tryz.prog := Z8c Z285 [.c (.ptr 0 0)] [.cells 72 [.ptr 1 0, .vec 2], .cells 111 [.vec 3, .vec 4, .vec 5, .vec 6], .vec false .call, .vec false .zone, .vec false .vol, .vec false .snap, .vec false .done] (fun t u => .ptr 7 0) (fun t u => (.cells 72 [.ptr 1 0, .vec 2] :: .cells 111 [.vec 3, .vec 4, .vec 5, .vec 6] :: .vec false ⟨.call, u.2.2.1⟩ :: oV (u.2.2.2.1) (u.2.2.2.2.1) (u.2.2.2.2.2.1) (u.2.2.2.2.2.2.1) (.cells 72 [.ptr 8 0, .vec 9] :: .cells 111 [.vec 10, .vec 11, .vec 12, .vec 13] :: .vec false ⟨.call, (Z259 u.2.2.1 u.2.2.2.1 u.2.2.2.2.1 u.2.2.2.2.2.1 u.2.2.2.2.2.2.1).1⟩ :: oV ((Z259 u.2.2.1 u.2.2.2.1 u.2.2.2.2.1 u.2.2.2.2.2.1 u.2.2.2.2.2.2.1).2.1) ((Z259 u.2.2.1 u.2.2.2.1 u.2.2.2.2.1 u.2.2.2.2.2.1 u.2.2.2.2.2.2.1).2.2.1) ((Z259 u.2.2.1 u.2.2.2.1 u.2.2.2.2.1 u.2.2.2.2.2.1 u.2.2.2.2.2.2.1).2.2.2.1) ((Z259 u.2.2.1 u.2.2.2.1 u.2.2.2.2.1 u.2.2.2.2.2.1 u.2.2.2.2.2.2.1).2.2.2.2) []))) (fun t u => [u.2.2.1.length ≤ 1000000, u.2.2.2.1.length ≤ 1000, u.2.2.2.2.1.length ≤ 1000, u.2.2.2.2.2.1.length ≤ 1000, u.2.2.2.2.2.2.1.length ≤ 1000, ∀ v ∈ u.2.2.2.2.1, v.nodes.length ≤ 1000]) rfl [0, 1, 2, 3, 4, 5, 6] (by
 intro t u k hk
 simp only [List.mem_cons, List.not_mem_nil, or_false] at hk
 rcases hk with rfl | rfl | rfl | rfl | rfl | rfl | rfl
 all_goals exact ⟨by decide, rfl⟩)
end Go.Proofs.YtkledlcmhbjadaaGreat
