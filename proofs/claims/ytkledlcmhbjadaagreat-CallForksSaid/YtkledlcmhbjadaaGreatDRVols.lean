/- The document's driver: what it tells. -/
import Derived.Test.YtkledlcmhbjadaaGreatDRGets
set_option linter.unusedVariables false
set_option linter.unusedSimpArgs false
set_option maxRecDepth 100000
namespace Go.Proofs.YtkledlcmhbjadaaGreat
open Go Go.Eng
noncomputable def Z29e : Env := Z65 (P := Tryz.prog) [] [] [] ckf true
def Z262  : LV → LV → LV
 | [], v5 => v5
 | o :: r, v5 => Z262 r (v5 ++ [(⟨o.name, (o.size), o.zone, (o.tag), ([] ++ (o.nodes))⟩ : XVol)])
def Z270 (b1 : LZ) (b2 : LV) (b3 : LS) (b4 : LQ) (i : Nat) (v5 : LV) : St :=
 ⟨Za 36 [(0, .ptr 0 0), (3, .vec 5), (4, .int .i64 (i : Int))], (.cells 111 [.vec 1, .vec 2, .vec 3, .vec 4] :: oV b1 b2 b3 b4 [.vec false ⟨.vol, v5⟩])⟩
def Z282 (b1 : LZ) (b2 : LV) (b3 : LS) (b4 : LQ) (i : Nat) (v5 : LV) : RT :=
 (.ask (decide ((i : Int) < (b2.length : Int)))
   (.need [0 ≤ (i : Int) ∧ (i : Int) < (b2.length : Int)]
     (.need [(([] : List BA).length + ((b2.getD i default).nodes).length) * 16 ≤ Z18 ∧ ([] : List BA).length + ((b2.getD i default).nodes).length ≤ maxLen]
       (.need [(v5.length + [(⟨(b2.getD i default).name, ((b2.getD i default).size), (b2.getD i default).zone, ((b2.getD i default).tag), ([] ++ ((b2.getD i default).nodes))⟩ : XVol)].length) * 72 ≤ Z18 ∧ v5.length + [(⟨(b2.getD i default).name, ((b2.getD i default).size), (b2.getD i default).zone, ((b2.getD i default).tag), ([] ++ ((b2.getD i default).nodes))⟩ : XVol)].length ≤ maxLen]
         (.leaf .normal ⟨Za 36 [(0, .ptr 0 0), (3, .vec 5), (4, .int .i64 (IntKind.i64.wrap ((i : Int) + (1 : Int))))], (.cells 111 [.vec 1, .vec 2, .vec 3, .vec 4] :: oV b1 b2 b3 b4 [.vec false ⟨.vol, (v5 ++ [(⟨(b2.getD i default).name, ((b2.getD i default).size), (b2.getD i default).zone, ((b2.getD i default).tag), ([] ++ ((b2.getD i default).nodes))⟩ : XVol)])⟩])⟩ [0, 1, 2, 3, 4, 10]))))
   (.leaf (.exit 0) ⟨Za 36 [(3, .vec 5)], (.cells 111 [.vec 1, .vec 2, .vec 3, .vec 4] :: oV b1 b2 b3 b4 [.vec false ⟨.vol, v5⟩])⟩ []))
def Z26b (b1 : LZ) (b2 : LV) (b3 : LS) (b4 : LQ) (i : Nat) (v5 : LV) : Tree :=
 .leaf (.exit 0) ⟨Za 36 [(3, .vec 5)], (.cells 111 [.vec 1, .vec 2, .vec 3, .vec 4] :: oV b1 b2 b3 b4 [.vec false ⟨.vol, Z262 (b2.drop i) v5⟩])⟩
theorem Z2a1 (b1 : LZ) (b2 : LV) (b3 : LS) (b4 : LQ) (hp0 : b1.length ≤ 1000) (hp1 : b2.length ≤ 1000) (hp2 : b3.length ≤ 1000) (hp3 : b4.length ≤ 1000) (hp4 : ∀ v ∈ b2, v.nodes.length ≤ 1000) (hlen : b2.length < 4611686018427387904) (z : { z : Nat × LV // z.1 ≤ b2.length ∧ z.2.length ≤ z.1 }) (Q : Exit → St → Prop) (h : (Z26b b1 b2 b3 b4 z.1.1 z.1.2).All Q) : Tr Tryz.prog 5 (.loop (Z47 Tryz.f53 0)) (Z270 b1 b2 b3 b4 z.1.1 z.1.2) Q := by
 refine Z60 (kok _ _ _ _ _ _) (E := Z29e) (ι := { z : Nat × LV // z.1 ≤ b2.length ∧ z.2.length ≤ z.1 }) 60 0 (fun _ => Z32) (fun z => Z270 b1 b2 b3 b4 z.1.1 z.1.2) (fun z => Z26b b1 b2 b3 b4 z.1.1 z.1.2) (fun z => Z282 b1 b2 b3 b4 z.1.1 z.1.2) (fun z => b2.length - z.1.1) (fun _ => Z14.none) (fun z => by obtain ⟨⟨i, v5⟩, hi⟩ := z; kernel_rfl) (fun z => by obtain ⟨⟨i, v5⟩, hi⟩ := z; kernel_rfl) (fun z => by obtain ⟨⟨i, v5⟩, hi⟩ := z; kernel_rfl) ?_ z Q h
 rintro ⟨⟨i, v5⟩, hi⟩ Q hT
 replace hT : (Z26b b1 b2 b3 b4 i v5).All Q := hT
 replace hi : i ≤ b2.length ∧ v5.length ≤ i := hi
 show (Z282 b1 b2 b3 b4 i v5).All _
 unfold Z282
 refine ⟨fun h0 => ?_, fun h0 => ?_⟩
 · have hlt : i < b2.length := by simpa using h0
   have hd := Z64 hlt
   have hw := Z4e (i := i) (by omega)
   refine ⟨Z2 (by first | omega | (constructor <;> omega)) (Z9), ?_⟩
   refine ⟨Z2 (by have h8 := hp4 _ (Z172 (l := b2) (i := i) (by omega)); unfold Z18 maxLen; (try simp only [List.length_append, List.length_cons, List.length_nil]); omega) (Z9), ?_⟩
   refine ⟨Z2 (by unfold Z18 maxLen; (try simp only [List.length_append, List.length_cons, List.length_nil]); omega) (Z9), ?_⟩
   have hF : Z262 (b2.drop i) v5 = Z262 (b2.drop (i + 1)) (v5 ++ [(⟨(b2.getD i default).name, ((b2.getD i default).size), (b2.getD i default).zone, ((b2.getD i default).tag), ([] ++ ((b2.getD i default).nodes))⟩ : XVol)]) := by rw [hd]; first | exact rfl | simp only [Z262, h0, cond_true, cond_false]
   refine ⟨⟨((i + 1), (v5 ++ [(⟨(b2.getD i default).name, ((b2.getD i default).size), (b2.getD i default).zone, ((b2.getD i default).tag), ([] ++ ((b2.getD i default).nodes))⟩ : XVol)])), by (first | dsimp only | skip); constructor <;> (try simp only [List.length_append, List.length_cons, List.length_nil]) <;> omega⟩, by show b2.length - (i + 1) < b2.length - i; omega, ?_, ?_⟩
   · show _ = Z270 b1 b2 b3 b4 (i + 1) (v5 ++ [(⟨(b2.getD i default).name, ((b2.getD i default).size), (b2.getD i default).zone, ((b2.getD i default).tag), ([] ++ ((b2.getD i default).nodes))⟩ : XVol)])
     unfold Z270
     simp only [hw]
   · show (Z26b b1 b2 b3 b4 (i + 1) (v5 ++ [(⟨(b2.getD i default).name, ((b2.getD i default).size), (b2.getD i default).zone, ((b2.getD i default).tag), ([] ++ ((b2.getD i default).nodes))⟩ : XVol)])).All Q
     unfold Z26b at hT ⊢
     rw [hF] at hT
     exact hT
 · have hge : ¬ i < b2.length := by simpa using h0
   have hd : b2.drop i = [] := List.drop_eq_nil_of_le (by omega)
   have hF : Z262 (b2.drop i) v5 = v5 := by rw [hd]; first | exact rfl | simp only [Z262, h0, cond_true, cond_false]
   unfold Z26b at hT
   rw [hF] at hT
   exact hT
def Z26c (b1 : LZ) (b2 : LV) (b3 : LS) (b4 : LQ) : LV :=
 Z262 b2 []
def rD_VolumesR (b1 : LZ) (b2 : LV) (b3 : LS) (b4 : LQ) : RT :=
 (.leaf .ret ⟨Za 36 [(2, .vec 5)], (.cells 111 [.vec 1, .vec 2, .vec 3, .vec 4] :: oV b1 b2 b3 b4 [.vec false ⟨.vol, Z262 b2 []⟩])⟩ [])
theorem rD_VolumesF_tr (b1 : LZ) (b2 : LV) (b3 : LS) (b4 : LQ) (hp0 : b1.length ≤ 1000) (hp1 : b2.length ≤ 1000) (hp2 : b3.length ≤ 1000) (hp3 : b4.length ≤ 1000) (hp4 : ∀ v ∈ b2, v.nodes.length ≤ 1000) : Tr Tryz.prog 5 (Z3c Tryz.f53) (Z27 Tryz.f53 [.ptr 0 0] (.cells 111 [.vec 1, .vec 2, .vec 3, .vec 4] :: oV b1 b2 b3 b4 [])) (Z48 Tryz.prog Tryz.f53 (.vec 5) (.cells 111 [.vec 1, .vec 2, .vec 3, .vec 4] :: oV b1 b2 b3 b4 [.vec false ⟨.vol, Z26c b1 b2 b3 b4⟩])) := by
 refine Z2f (kok _ _ _ _ _ _) (E := Z29e) (L := (Z5f [(0, Z270 b1 b2 b3 b4 0 [], [0, 1, 2, 3, 4, 6], Z26b b1 b2 b3 b4 0 [])])) 60 9999 (Z14.one (g := Z47 Tryz.f53 0) (b := 0) (by kernel_rfl) (by kernel_rfl) (by kernel_rfl) (by kernel_rfl) (fun Q h => Z2a1 b1 b2 b3 b4 hp0 hp1 hp2 hp3 hp4 (by omega) ⟨(0, []), ⟨Nat.zero_le _, Nat.le_refl _⟩⟩ Q h)) (rD_VolumesR b1 b2 b3 b4) (by kernel_rfl) (by kernel_rfl) (by kernel_rfl) ?_
 unfold rD_VolumesR
 exact ⟨trivial, .inl (by kernel_rfl), by kernel_rfl⟩
noncomputable def Z29f : Fact Tryz.prog := Z4b 53 Tryz.f53 (by kernel_rfl) rfl (by kernel_rfl) [.c (.ptr 0 0)] [.cells 111 [.vec 1, .vec 2, .vec 3, .vec 4], .vec false .zone, .vec false .vol, .vec false .snap, .vec false .done] false (fun t u => .vec 5) (fun t u => (.cells 111 [.vec 1, .vec 2, .vec 3, .vec 4] :: oV (u.2.1) (u.2.2.1) (u.2.2.2.1) (u.2.2.2.2.1) [.vec false ⟨.vol, Z26c u.2.1 u.2.2.1 u.2.2.2.1 u.2.2.2.2.1⟩])) (fun t u => [u.2.1.length ≤ 1000, u.2.2.1.length ≤ 1000, u.2.2.2.1.length ≤ 1000, u.2.2.2.2.1.length ≤ 1000, ∀ v ∈ u.2.2.1, v.nodes.length ≤ 1000])
 (nofun) (fun t u => by kernel_rfl) (fun t u => by kernel_rfl) (fun t u h => rD_VolumesF_tr u.2.1 u.2.2.1 u.2.2.2.1 u.2.2.2.2.1 (h _ mS) (h _ (mN mS)) (h _ (mN (mN mS))) (h _ (mN (mN (mN mS)))) (h _ (mN (mN (mN (mN mS))))))
noncomputable def rD_Volumes_fact : Fact Tryz.prog := Z8c Z29f [.c (.ptr 0 0)] [.cells 111 [.vec 1, .vec 2, .vec 3, .vec 4], .vec false .zone, .vec false .vol, .vec false .snap, .vec false .done] (fun t u => .vec 5) (fun t u => (.cells 111 [.vec 1, .vec 2, .vec 3, .vec 4] :: oV (u.2.1) (u.2.2.1) (u.2.2.2.1) (u.2.2.2.2.1) [.vec false ⟨.vol, Z26c u.2.1 u.2.2.1 u.2.2.2.1 u.2.2.2.2.1⟩])) (fun t u => [u.2.1.length ≤ 1000, u.2.2.1.length ≤ 1000, u.2.2.2.1.length ≤ 1000, u.2.2.2.2.1.length ≤ 1000, ∀ v ∈ u.2.2.1, v.nodes.length ≤ 1000]) rfl [0, 1, 2, 3, 4] (by
 intro t u k hk
 simp only [List.mem_cons, List.not_mem_nil, or_false] at hk
 rcases hk with rfl | rfl | rfl | rfl | rfl
 all_goals exact ⟨by decide, rfl⟩)
noncomputable def E_rD_Snaps : Env := Z65 (P := Tryz.prog) [] [] [] ckf true
def Z271 (b1 : LZ) (b2 : LV) (b3 : LS) (b4 : LQ) : LS :=
 ([] ++ b3)
def rD_SnapsR (b1 : LZ) (b2 : LV) (b3 : LS) (b4 : LQ) : RT :=
 (.ask false
   .fail
   (.need [(([] : LS).length + b3.length) * 32 ≤ Z18 ∧ ([] : LS).length + b3.length ≤ maxLen]
     (.leaf .ret ⟨Za 11 [(2, .vec 5)], (.cells 111 [.vec 1, .vec 2, .vec 3, .vec 4] :: oV b1 b2 b3 b4 [.vec false ⟨.snap, ([] ++ b3)⟩])⟩ [0, 1, 2, 3, 4, 7])))
theorem rD_SnapsF_tr (b1 : LZ) (b2 : LV) (b3 : LS) (b4 : LQ) (hp0 : b1.length ≤ 1000) (hp1 : b2.length ≤ 1000) (hp2 : b3.length ≤ 1000) (hp3 : b4.length ≤ 1000) (hp4 : ∀ v ∈ b2, v.nodes.length ≤ 1000) : Tr Tryz.prog 5 (Z3c Tryz.f54) (Z27 Tryz.f54 [.ptr 0 0] (.cells 111 [.vec 1, .vec 2, .vec 3, .vec 4] :: oV b1 b2 b3 b4 [])) (Z48 Tryz.prog Tryz.f54 (.vec 5) (.cells 111 [.vec 1, .vec 2, .vec 3, .vec 4] :: oV b1 b2 b3 b4 [.vec false ⟨.snap, Z271 b1 b2 b3 b4⟩])) := by
 refine Z2f (kok _ _ _ _ _ _) (E := E_rD_Snaps) (L := Z32) 60 9999 Z14.none (rD_SnapsR b1 b2 b3 b4) (by kernel_rfl) (by kernel_rfl) (by kernel_rfl) ?_
 unfold rD_SnapsR
 refine ⟨fun h0 => ?_, fun h0 => ?_⟩
 · exact absurd h0 (by simp)
 · refine ⟨Z2 (by unfold Z18 maxLen; (try simp only [List.length_append, List.length_cons, List.length_nil]); omega) (Z9), ?_⟩
   have hF : Z271 b1 b2 b3 b4 = ([] ++ b3) := by first | exact rfl | simp only [Z271, h0, cond_true, cond_false]
   exact ⟨trivial, .inl (by (try rw [hF]); kernel_rfl), by (try rw [hF]); kernel_rfl⟩
noncomputable def rD_Snaps_fact0 : Fact Tryz.prog := Z4b 54 Tryz.f54 (by kernel_rfl) rfl (by kernel_rfl) [.c (.ptr 0 0)] [.cells 111 [.vec 1, .vec 2, .vec 3, .vec 4], .vec false .zone, .vec false .vol, .vec false .snap, .vec false .done] false (fun t u => .vec 5) (fun t u => (.cells 111 [.vec 1, .vec 2, .vec 3, .vec 4] :: oV (u.2.1) (u.2.2.1) (u.2.2.2.1) (u.2.2.2.2.1) [.vec false ⟨.snap, Z271 u.2.1 u.2.2.1 u.2.2.2.1 u.2.2.2.2.1⟩])) (fun t u => [u.2.1.length ≤ 1000, u.2.2.1.length ≤ 1000, u.2.2.2.1.length ≤ 1000, u.2.2.2.2.1.length ≤ 1000, ∀ v ∈ u.2.2.1, v.nodes.length ≤ 1000])
 (nofun) (fun t u => by kernel_rfl) (fun t u => by kernel_rfl) (fun t u h => rD_SnapsF_tr u.2.1 u.2.2.1 u.2.2.2.1 u.2.2.2.2.1 (h _ mS) (h _ (mN mS)) (h _ (mN (mN mS))) (h _ (mN (mN (mN mS)))) (h _ (mN (mN (mN (mN mS))))))
noncomputable def rD_Snaps_fact : Fact Tryz.prog := Z8c rD_Snaps_fact0 [.c (.ptr 0 0)] [.cells 111 [.vec 1, .vec 2, .vec 3, .vec 4], .vec false .zone, .vec false .vol, .vec false .snap, .vec false .done] (fun t u => .vec 5) (fun t u => (.cells 111 [.vec 1, .vec 2, .vec 3, .vec 4] :: oV (u.2.1) (u.2.2.1) (u.2.2.2.1) (u.2.2.2.2.1) [.vec false ⟨.snap, Z271 u.2.1 u.2.2.1 u.2.2.2.1 u.2.2.2.2.1⟩])) (fun t u => [u.2.1.length ≤ 1000, u.2.2.1.length ≤ 1000, u.2.2.2.1.length ≤ 1000, u.2.2.2.2.1.length ≤ 1000, ∀ v ∈ u.2.2.1, v.nodes.length ≤ 1000]) rfl [0, 1, 2, 3, 4] (by
 intro t u k hk
 simp only [List.mem_cons, List.not_mem_nil, or_false] at hk
 rcases hk with rfl | rfl | rfl | rfl | rfl
 all_goals exact ⟨by decide, rfl⟩)
noncomputable def E_rD_Fork : Env := Z65 (P := Tryz.prog) [rD_Volumes_fact, rD_Snaps_fact] [] [] ckf true
def Z25e (b1 : LZ) (b2 : LV) (b3 : LS) (b4 : LQ) : LZ × LV × LS × LQ :=
 (([] ++ b1), Z26c b1 b2 b3 b4, Z271 b1 b2 b3 b4, ([] ++ b4))
def rD_ForkR (b1 : LZ) (b2 : LV) (b3 : LS) (b4 : LQ) : RT :=
 (.ask false
   .fail
   (.need [(([] : LZ).length + b1.length) * 24 ≤ Z18 ∧ ([] : LZ).length + b1.length ≤ maxLen, b1.length ≤ 1000, b2.length ≤ 1000, b3.length ≤ 1000, b4.length ≤ 1000, ∀ v ∈ b2, v.nodes.length ≤ 1000, b1.length ≤ 1000, b2.length ≤ 1000, b3.length ≤ 1000, b4.length ≤ 1000, ∀ v ∈ b2, v.nodes.length ≤ 1000, (([] : LQ).length + b4.length) * 128 ≤ Z18 ∧ ([] : LQ).length + b4.length ≤ maxLen]
     (.leaf .ret ⟨Za 23 [(2, .ptr 5 0)], (.cells 111 [.vec 1, .vec 2, .vec 3, .vec 4] :: oV b1 b2 b3 b4 (.cells 111 [.vec 6, .vec 7, .vec 8, .vec 9] :: oV ([] ++ b1) (Z26c b1 b2 b3 b4) (Z271 b1 b2 b3 b4) ([] ++ b4) []))⟩ [0, 1, 2, 3, 4, 11, 6, 7, 8, 10])))
theorem rD_ForkF_tr (b1 : LZ) (b2 : LV) (b3 : LS) (b4 : LQ) (hp0 : b1.length ≤ 1000) (hp1 : b2.length ≤ 1000) (hp2 : b3.length ≤ 1000) (hp3 : b4.length ≤ 1000) (hp4 : ∀ v ∈ b2, v.nodes.length ≤ 1000) : Tr Tryz.prog 5 (Z3c Tryz.f28) (Z27 Tryz.f28 [.ptr 0 0] (.cells 111 [.vec 1, .vec 2, .vec 3, .vec 4] :: oV b1 b2 b3 b4 [])) (Z48 Tryz.prog Tryz.f28 (.ptr 5 0) (.cells 111 [.vec 1, .vec 2, .vec 3, .vec 4] :: oV b1 b2 b3 b4 (.cells 111 [.vec 6, .vec 7, .vec 8, .vec 9] :: oV ((Z25e b1 b2 b3 b4).1) ((Z25e b1 b2 b3 b4).2.1) ((Z25e b1 b2 b3 b4).2.2.1) ((Z25e b1 b2 b3 b4).2.2.2) []))) := by
 refine Z2f (kok _ _ _ _ _ _) (E := E_rD_Fork) (L := Z32) 60 9999 Z14.none (rD_ForkR b1 b2 b3 b4) (by kernel_rfl) (by kernel_rfl) (by kernel_rfl) ?_
 unfold rD_ForkR
 refine ⟨fun h0 => ?_, fun h0 => ?_⟩
 · exact absurd h0 (by simp)
 · refine ⟨(by refine Z2 (by unfold Z18 maxLen; (try simp only [List.length_append, List.length_cons, List.length_nil]); omega) ?_; (iterate 4 refine Z2 (by first | assumption | omega | ((try intro _); (try simp only [decide_eq_true_eq, decide_eq_false_iff_not, Bool.cond_false_right, Bool.cond_true_right, Bool.cond_true_left, Bool.cond_false_left, Bool.and_eq_true, Bool.or_eq_true, Bool.not_eq_true', Z18, maxLen, List.length_cons, List.length_nil, List.length_append, Z44] at *); omega)) ?_); refine Z2 (by assumption) ?_; (iterate 4 refine Z2 (by first | assumption | omega | ((try intro _); (try simp only [decide_eq_true_eq, decide_eq_false_iff_not, Bool.cond_false_right, Bool.cond_true_right, Bool.cond_true_left, Bool.cond_false_left, Bool.and_eq_true, Bool.or_eq_true, Bool.not_eq_true', Z18, maxLen, List.length_cons, List.length_nil, List.length_append, Z44] at *); omega)) ?_); refine Z2 (by assumption) ?_; refine Z2 (by unfold Z18 maxLen; (try simp only [List.length_append, List.length_cons, List.length_nil]); omega) ?_; exact Z9), ?_⟩
   have hF : Z25e b1 b2 b3 b4 = (([] ++ b1), Z26c b1 b2 b3 b4, Z271 b1 b2 b3 b4, ([] ++ b4)) := by first | exact rfl | simp only [Z25e, h0, cond_true, cond_false]
   exact ⟨trivial, .inl (by (try rw [hF]); kernel_rfl), by (try rw [hF]); kernel_rfl⟩
noncomputable def rD_Fork_fact0 : Fact Tryz.prog := Z4b 28 Tryz.f28 (by kernel_rfl) rfl (by kernel_rfl) [.c (.ptr 0 0)] [.cells 111 [.vec 1, .vec 2, .vec 3, .vec 4], .vec false .zone, .vec false .vol, .vec false .snap, .vec false .done] false (fun t u => .ptr 5 0) (fun t u => (.cells 111 [.vec 1, .vec 2, .vec 3, .vec 4] :: oV (u.2.1) (u.2.2.1) (u.2.2.2.1) (u.2.2.2.2.1) (.cells 111 [.vec 6, .vec 7, .vec 8, .vec 9] :: oV ((Z25e u.2.1 u.2.2.1 u.2.2.2.1 u.2.2.2.2.1).1) ((Z25e u.2.1 u.2.2.1 u.2.2.2.1 u.2.2.2.2.1).2.1) ((Z25e u.2.1 u.2.2.1 u.2.2.2.1 u.2.2.2.2.1).2.2.1) ((Z25e u.2.1 u.2.2.1 u.2.2.2.1 u.2.2.2.2.1).2.2.2) []))) (fun t u => [u.2.1.length ≤ 1000, u.2.2.1.length ≤ 1000, u.2.2.2.1.length ≤ 1000, u.2.2.2.2.1.length ≤ 1000, ∀ v ∈ u.2.2.1, v.nodes.length ≤ 1000])
 (nofun) (fun t u => by kernel_rfl) (fun t u => by kernel_rfl) (fun t u h => rD_ForkF_tr u.2.1 u.2.2.1 u.2.2.2.1 u.2.2.2.2.1 (h _ mS) (h _ (mN mS)) (h _ (mN (mN mS))) (h _ (mN (mN (mN mS)))) (h _ (mN (mN (mN (mN mS))))))
noncomputable def rD_Fork_fact : Fact Tryz.prog := Z8c rD_Fork_fact0 [.c (.ptr 0 0)] [.cells 111 [.vec 1, .vec 2, .vec 3, .vec 4], .vec false .zone, .vec false .vol, .vec false .snap, .vec false .done] (fun t u => .ptr 5 0) (fun t u => (.cells 111 [.vec 1, .vec 2, .vec 3, .vec 4] :: oV (u.2.1) (u.2.2.1) (u.2.2.2.1) (u.2.2.2.2.1) (.cells 111 [.vec 6, .vec 7, .vec 8, .vec 9] :: oV ((Z25e u.2.1 u.2.2.1 u.2.2.2.1 u.2.2.2.2.1).1) ((Z25e u.2.1 u.2.2.1 u.2.2.2.1 u.2.2.2.2.1).2.1) ((Z25e u.2.1 u.2.2.1 u.2.2.2.1 u.2.2.2.2.1).2.2.1) ((Z25e u.2.1 u.2.2.1 u.2.2.2.1 u.2.2.2.2.1).2.2.2) []))) (fun t u => [u.2.1.length ≤ 1000, u.2.2.1.length ≤ 1000, u.2.2.2.1.length ≤ 1000, u.2.2.2.2.1.length ≤ 1000, ∀ v ∈ u.2.2.1, v.nodes.length ≤ 1000]) rfl [0, 1, 2, 3, 4] (by
 intro t u k hk
 simp only [List.mem_cons, List.not_mem_nil, or_false] at hk
 rcases hk with rfl | rfl | rfl | rfl | rfl
 all_goals exact ⟨by decide, rfl⟩)
noncomputable def Zcb : Env := Z65 (P := Tryz.prog) [] [] [] ckf
def Z3d (a1 : LV) (i : Nat) : List BA → Nat → Bool
 | [], i1 => false
 | o1 :: r, i1 => cond (!(decide (o1 = (((a1.getD i default).nodes).getD i1 default))))
  true
  (Z3d a1 i r (i1 + 1))
def Z89 (a0 : LV) (a1 : LV) (i : Nat) (i1 : Nat) : St :=
 ⟨Za 81 [(0, .coll ⟨.vol, a0⟩), (1, .coll ⟨.vol, a1⟩), (5, .int .i64 (i : Int)), (6, .ptr 0 0), (7, .ptr 1 0), (8, .int .i64 (i1 : Int))], [.cells 106 [.str ((a0.getD i default).name), .int .i64 ((a0.getD i default).size), .str ((a0.getD i default).zone), .int .u64 ((a0.getD i default).tag), .coll ⟨.str, (a0.getD i default).nodes⟩], .cells 106 [.str ((a1.getD i default).name), .int .i64 ((a1.getD i default).size), .str ((a1.getD i default).zone), .int .u64 ((a1.getD i default).tag), .coll ⟨.str, (a1.getD i default).nodes⟩]]⟩
def Zbb (a0 : LV) (a1 : LV) (i : Nat) (i1 : Nat) : RT :=
 (.ask (decide ((i1 : Int) < (((a0.getD i default).nodes).length : Int)))
   (.need [0 ≤ (i1 : Int) ∧ (i1 : Int) < (((a0.getD i default).nodes).length : Int), 0 ≤ (i1 : Int) ∧ (i1 : Int) < (((a1.getD i default).nodes).length : Int)]
     (.ask (!(decide ((((a0.getD i default).nodes).getD i1 default) = (((a1.getD i default).nodes).getD i1 default))))
       (.leaf .ret ⟨Za 81 [(4, .bool false)], []⟩ [])
       (.leaf .normal ⟨Za 81 [(0, .coll ⟨.vol, a0⟩), (1, .coll ⟨.vol, a1⟩), (5, .int .i64 (i : Int)), (6, .ptr 0 0), (7, .ptr 1 0), (8, .int .i64 (IntKind.i64.wrap ((i1 : Int) + (1 : Int))))], [.cells 106 [.str ((a0.getD i default).name), .int .i64 ((a0.getD i default).size), .str ((a0.getD i default).zone), .int .u64 ((a0.getD i default).tag), .coll ⟨.str, (a0.getD i default).nodes⟩], .cells 106 [.str ((a1.getD i default).name), .int .i64 ((a1.getD i default).size), .str ((a1.getD i default).zone), .int .u64 ((a1.getD i default).tag), .coll ⟨.str, (a1.getD i default).nodes⟩]]⟩ [])))
   (.leaf (.exit 2) ⟨Za 81 [(0, .coll ⟨.vol, a0⟩), (1, .coll ⟨.vol, a1⟩), (5, .int .i64 (i : Int))], []⟩ []))
def Z62 (a0 : LV) (a1 : LV) (i : Nat) (i1 : Nat) : Tree :=
 .ask (Z3d a1 i (((a0.getD i default).nodes).drop i1) i1) (.leaf .ret ⟨Za 81 [(4, .bool false)], []⟩) (.leaf (.exit 2) ⟨Za 81 [(0, .coll ⟨.vol, a0⟩), (1, .coll ⟨.vol, a1⟩), (5, .int .i64 (i : Int))], []⟩)
theorem Z14f (a0 : LV) (a1 : LV) (i : Nat) (hp0 : a0.length ≤ 1000) (hp1 : ∀ v ∈ a0, v.nodes.length ≤ 1000) (hlen : ((a0.getD i default).nodes).length < 4611686018427387904) (hn0 : ((a0.getD i default).nodes).length = ((a1.getD i default).nodes).length) (hn1 : 0 ≤ (i : Int) ∧ (i : Int) < (a0.length : Int)) (z : { z : Nat // z ≤ ((a0.getD i default).nodes).length }) (Q : Exit → St → Prop) (h : (Z62 a0 a1 i z.1).All Q) : Tr Tryz.prog 0 (.loop (Z221 (Z47 Tryz.f25 0) 0 0)) (Z89 a0 a1 i z.1) Q := by
 refine Z60 (kok _ _ _ _ _ _) (E := Zcb) (ι := { z : Nat // z ≤ ((a0.getD i default).nodes).length }) 60 2 (fun _ => Z32) (fun z => Z89 a0 a1 i z.1) (fun z => Z62 a0 a1 i z.1) (fun z => Zbb a0 a1 i z.1) (fun z => ((a0.getD i default).nodes).length - z.1) (fun _ => Z14.none) (fun z => by obtain ⟨i1, hi⟩ := z; kernel_rfl) (fun z => by obtain ⟨i1, hi⟩ := z; kernel_rfl) (fun z => by obtain ⟨i1, hi⟩ := z; kernel_rfl) ?_ z Q h
 rintro ⟨i1, hi⟩ Q hT
 replace hT : (Z62 a0 a1 i i1).All Q := hT
 replace hi : i1 ≤ ((a0.getD i default).nodes).length := hi
 show (Zbb a0 a1 i i1).All _
 unfold Zbb
 refine ⟨fun h0 => ?_, fun h0 => ?_⟩
 · have hlt : i1 < ((a0.getD i default).nodes).length := by simpa using h0
   have hd := Z64 hlt
   have hw := Z4e (i := i1) (by omega)
   refine ⟨(by (iterate 2 refine Z2 (by first | assumption | omega | ((try intro _); (try simp only [decide_eq_true_eq, decide_eq_false_iff_not, Bool.cond_false_right, Bool.cond_true_right, Bool.cond_true_left, Bool.cond_false_left, Bool.and_eq_true, Bool.or_eq_true, Bool.not_eq_true', Z18, maxLen, List.length_cons, List.length_nil, List.length_append, Z44] at *); omega)) ?_); exact Z9), ?_⟩
   refine ⟨fun h1 => ?_, fun h1 => ?_⟩
   · have hF : Z3d a1 i (((a0.getD i default).nodes).drop i1) i1 = true := by rw [hd]; first | exact (Z12 h1 rfl) | simp only [Z3d, h0, h1, cond_true, cond_false]
     unfold Z62 at hT
     rw [hF] at hT
     exact hT.1 rfl
   · have hF : Z3d a1 i (((a0.getD i default).nodes).drop i1) i1 = Z3d a1 i (((a0.getD i default).nodes).drop (i1 + 1)) (i1 + 1) := by rw [hd]; first | exact (Z3 h1 rfl) | simp only [Z3d, h0, h1, cond_true, cond_false]
     refine ⟨⟨(i1 + 1), by show (i1 + 1) ≤ ((a0.getD i default).nodes).length; omega⟩, by show ((a0.getD i default).nodes).length - (i1 + 1) < ((a0.getD i default).nodes).length - i1; omega, ?_, ?_⟩
     · show _ = Z89 a0 a1 i (i1 + 1)
       unfold Z89
       simp only [hw]
     · show (Z62 a0 a1 i (i1 + 1)).All Q
       unfold Z62 at hT ⊢
       rw [hF] at hT
       exact hT
 · have hge : ¬ i1 < ((a0.getD i default).nodes).length := by simpa using h0
   have hd : ((a0.getD i default).nodes).drop i1 = [] := List.drop_eq_nil_of_le (by omega)
   have hF : Z3d a1 i (((a0.getD i default).nodes).drop i1) i1 = false := by rw [hd]; first | exact rfl | simp only [Z3d, h0, cond_true, cond_false]
   unfold Z62 at hT
   rw [hF] at hT
   exact hT.2 rfl
def Z37 (a1 : LV) : LV → Nat → Bool
 | [], i => false
 | o :: r, i => cond (cond (cond (cond (cond (!(decide ((o.name) = ((a1.getD i default).name)))) true (!((o.size) == ((a1.getD i default).size)))) true (!(decide ((o.zone) = ((a1.getD i default).zone))))) true (!((o.tag) == ((a1.getD i default).tag)))) true (!(((o.nodes).length : Int) == (((a1.getD i default).nodes).length : Int))))
  true
  (cond (Z3d a1 i (o.nodes) 0)
    true
    (Z37 a1 r (i + 1)))
def Z93 (a0 : LV) (a1 : LV) (i : Nat) : St :=
 ⟨Za 81 [(0, .coll ⟨.vol, a0⟩), (1, .coll ⟨.vol, a1⟩), (5, .int .i64 (i : Int))], []⟩
def Zc6 (a0 : LV) (a1 : LV) (i : Nat) : RT :=
 (.ask (decide ((i : Int) < (a0.length : Int)))
   (.need [0 ≤ (i : Int) ∧ (i : Int) < (a0.length : Int), 0 ≤ (i : Int) ∧ (i : Int) < (a1.length : Int)]
     (.ask (cond (cond (cond (cond (!(decide (((a0.getD i default).name) = ((a1.getD i default).name)))) true (!(((a0.getD i default).size) == ((a1.getD i default).size)))) true (!(decide (((a0.getD i default).zone) = ((a1.getD i default).zone))))) true (!(((a0.getD i default).tag) == ((a1.getD i default).tag)))) true (!((((a0.getD i default).nodes).length : Int) == (((a1.getD i default).nodes).length : Int))))
       (.leaf .ret ⟨Za 81 [(4, .bool false)], []⟩ [])
       (.need [((a0.getD i default).nodes).length = ((a1.getD i default).nodes).length, 0 ≤ (i : Int) ∧ (i : Int) < (a0.length : Int), ((a0.getD i default).nodes).length < 4611686018427387904]
         (.ask (Z3d a1 i ((a0.getD i default).nodes) 0)
           (.leaf .ret ⟨Za 81 [(4, .bool false)], []⟩ [])
           (.leaf .normal ⟨Za 81 [(0, .coll ⟨.vol, a0⟩), (1, .coll ⟨.vol, a1⟩), (5, .int .i64 (IntKind.i64.wrap ((i : Int) + (1 : Int))))], []⟩ [])))))
   (.leaf (.exit 0) ⟨Za 81 [], []⟩ []))
def Z5e (a0 : LV) (a1 : LV) (i : Nat) : Tree :=
 .ask (Z37 a1 (a0.drop i) i) (.leaf .ret ⟨Za 81 [(4, .bool false)], []⟩) (.leaf (.exit 0) ⟨Za 81 [], []⟩)
theorem Z16a (a0 : LV) (a1 : LV) (hp0 : a0.length ≤ 1000) (hp1 : ∀ v ∈ a0, v.nodes.length ≤ 1000) (hlen : a0.length < 4611686018427387904) (hn0 : a0.length = a1.length) (z : { z : Nat // z ≤ a0.length }) (Q : Exit → St → Prop) (h : (Z5e a0 a1 z.1).All Q) : Tr Tryz.prog 0 (.loop (Z47 Tryz.f25 0)) (Z93 a0 a1 z.1) Q := by
 refine Z60 (kok _ _ _ _ _ _) (E := Zcb) (ι := { z : Nat // z ≤ a0.length }) 60 0 (fun z => Z5f [(2, Z89 a0 a1 z.1 0, [], .need [((a0.getD z.1 default).nodes).length = ((a1.getD z.1 default).nodes).length, 0 ≤ (z.1 : Int) ∧ (z.1 : Int) < (a0.length : Int), ((a0.getD z.1 default).nodes).length < 4611686018427387904] (Z62 a0 a1 z.1 0))]) (fun z => Z93 a0 a1 z.1) (fun z => Z5e a0 a1 z.1) (fun z => Zc6 a0 a1 z.1) (fun z => a0.length - z.1) (fun z => by obtain ⟨i, hi⟩ := z; exact Z14.one (g := Z221 (Z47 Tryz.f25 0) 0 0) (b := 2) (by kernel_rfl) (by kernel_rfl) (by kernel_rfl) (by kernel_rfl) (fun Q h => Z14f a0 a1 i hp0 hp1 (h.1 _ (mN (mN mS))) (h.1 _ mS) (h.1 _ (mN mS)) ⟨0, by first | exact Nat.zero_le _ | (show 0 ≤ ((a0.getD i default).nodes).length; omega) | (show 0 ≤ ((a0.getD i default).nodes).length; exact ⟨Nat.zero_le _, by assumption⟩) | (show 0 ≤ ((a0.getD i default).nodes).length; simp)⟩ Q h.2)) (fun z => by obtain ⟨i, hi⟩ := z; kernel_rfl) (fun z => by obtain ⟨i, hi⟩ := z; kernel_rfl) (fun z => by obtain ⟨i, hi⟩ := z; kernel_rfl) ?_ z Q h
 rintro ⟨i, hi⟩ Q hT
 replace hT : (Z5e a0 a1 i).All Q := hT
 replace hi : i ≤ a0.length := hi
 show (Zc6 a0 a1 i).All _
 unfold Zc6
 refine ⟨fun h0 => ?_, fun h0 => ?_⟩
 · have hlt : i < a0.length := by simpa using h0
   have hd := Z64 hlt
   have hw := Z4e (i := i) (by omega)
   refine ⟨(by (iterate 2 refine Z2 (by first | assumption | omega | ((try intro _); (try simp only [decide_eq_true_eq, decide_eq_false_iff_not, Bool.cond_false_right, Bool.cond_true_right, Bool.cond_true_left, Bool.cond_false_left, Bool.and_eq_true, Bool.or_eq_true, Bool.not_eq_true', Z18, maxLen, List.length_cons, List.length_nil, List.length_append, Z44] at *); omega)) ?_); exact Z9), ?_⟩
   refine ⟨fun h1 => ?_, fun h1 => ?_⟩
   · have hF : Z37 a1 (a0.drop i) i = true := by rw [hd]; first | exact (Z12 h1 rfl) | simp only [Z37, h0, h1, cond_true, cond_false]
     unfold Z5e at hT
     rw [hF] at hT
     exact hT.1 rfl
   · refine ⟨Z2 (by have h9 := h1; simp only [cond_true, cond_false, Bool.cond_true_left, Bool.or_eq_false_iff, Bool.not_eq_false', decide_eq_true_eq, beq_iff_eq] at h9; omega) (Z2 (by first | assumption | omega | ((try intro _); (try simp only [decide_eq_true_eq, decide_eq_false_iff_not, Bool.cond_false_right, Bool.cond_true_right, Bool.cond_true_left, Bool.cond_false_left, Bool.and_eq_true, Bool.or_eq_true, Bool.not_eq_true', Z18, maxLen, List.length_cons, List.length_nil, List.length_append, Z44] at *); omega)) (Z2 (by have h8 := hp1 _ (Z172 (l := a0) (i := i) (by omega)); omega) (Z9))), ?_⟩
     refine ⟨fun h2 => ?_, fun h2 => ?_⟩
     · have hF : Z37 a1 (a0.drop i) i = true := by rw [hd]; first | exact (Z3 h1 (Z12 h2 rfl)) | simp only [Z37, h0, h1, h2, cond_true, cond_false]
       unfold Z5e at hT
       rw [hF] at hT
       exact hT.1 rfl
     · have hF : Z37 a1 (a0.drop i) i = Z37 a1 (a0.drop (i + 1)) (i + 1) := by rw [hd]; first | exact (Z3 h1 (Z3 h2 rfl)) | simp only [Z37, h0, h1, h2, cond_true, cond_false]
       refine ⟨⟨(i + 1), by show (i + 1) ≤ a0.length; omega⟩, by show a0.length - (i + 1) < a0.length - i; omega, ?_, ?_⟩
       · show _ = Z93 a0 a1 (i + 1)
         unfold Z93
         simp only [hw]
       · show (Z5e a0 a1 (i + 1)).All Q
         unfold Z5e at hT ⊢
         rw [hF] at hT
         exact hT
 · have hge : ¬ i < a0.length := by simpa using h0
   have hd : a0.drop i = [] := List.drop_eq_nil_of_le (by omega)
   have hF : Z37 a1 (a0.drop i) i = false := by rw [hd]; first | exact rfl | simp only [Z37, h0, cond_true, cond_false]
   unfold Z5e at hT
   rw [hF] at hT
   exact hT.2 rfl
def Z40 (a0 : LV) (a1 : LV) : Bool :=
 cond (!((a0.length : Int) == (a1.length : Int)))
  false
  (cond (Z37 a1 a0 0)
    false
    true)
def Z147 (a0 : LV) (a1 : LV) : RT :=
 (.ask (!((a0.length : Int) == (a1.length : Int)))
   (.leaf .ret ⟨Za 81 [(4, .bool false)], []⟩ [])
   (.need [a0.length = a1.length]
     (.ask (Z37 a1 a0 0)
       (.leaf .ret ⟨Za 81 [(4, .bool false)], []⟩ [])
       (.leaf .ret ⟨Za 81 [(4, .bool true)], []⟩ []))))
theorem Z1c0 (a0 : LV) (a1 : LV) (hp0 : a0.length ≤ 1000) (hp1 : ∀ v ∈ a0, v.nodes.length ≤ 1000) : Tr Tryz.prog 0 (Z3c Tryz.f25) (Z27 Tryz.f25 [.coll ⟨.vol, a0⟩, .coll ⟨.vol, a1⟩] []) (Z48 Tryz.prog Tryz.f25 (.bool (Z40 a0 a1)) []) := by
 refine Z2f (kok _ _ _ _ _ _) (E := Zcb) (L := (Z5f [(0, Z93 a0 a1 0, [], .need [a0.length = a1.length] (Z5e a0 a1 0))])) 60 9999 (Z14.one (g := Z47 Tryz.f25 0) (b := 0) (by kernel_rfl) (by kernel_rfl) (by kernel_rfl) (by kernel_rfl) (fun Q h => Z16a a0 a1 hp0 hp1 (by omega) (h.1 _ mS) ⟨0, by first | exact Nat.zero_le _ | (show 0 ≤ a0.length; omega) | (show 0 ≤ a0.length; exact ⟨Nat.zero_le _, by assumption⟩) | (show 0 ≤ a0.length; simp)⟩ Q h.2)) (Z147 a0 a1) (by kernel_rfl) (by kernel_rfl) (by kernel_rfl) ?_
 unfold Z147
 refine ⟨fun h0 => ?_, fun h0 => ?_⟩
 · have hF : Z40 a0 a1 = false := by first | exact (Z12 h0 rfl) | simp only [Z40, h0, cond_true, cond_false]
   exact ⟨trivial, .inl (by (try rw [hF]); kernel_rfl), by (try rw [hF]); kernel_rfl⟩
 · refine ⟨Z2 (by have h9 := h0; simp only [Bool.not_eq_false', decide_eq_true_eq, beq_iff_eq] at h9; omega) (Z9), ?_⟩
   refine ⟨fun h1 => ?_, fun h1 => ?_⟩
   · have hF : Z40 a0 a1 = false := by first | exact (Z3 h0 (Z12 h1 rfl)) | simp only [Z40, h0, h1, cond_true, cond_false]
     exact ⟨trivial, .inl (by (try rw [hF]); kernel_rfl), by (try rw [hF]); kernel_rfl⟩
   · have hF : Z40 a0 a1 = true := by first | exact (Z3 h0 (Z3 h1 rfl)) | simp only [Z40, h0, h1, cond_true, cond_false]
     exact ⟨trivial, .inl (by (try rw [hF]); kernel_rfl), by (try rw [hF]); kernel_rfl⟩
noncomputable def Z19b : Fact Tryz.prog := Z4b 25 Tryz.f25 (by kernel_rfl) rfl (by kernel_rfl) [.c (.coll .vol), .c (.coll .vol)] [] true (fun t u => .bool (Z40 t.1 t.2.1)) (fun t u => []) (fun t u => [t.1.length ≤ 1000, ∀ v ∈ t.1, v.nodes.length ≤ 1000])
 (fun _ _ _ => rfl) (fun t u => by kernel_rfl) (fun t u => by kernel_rfl) (fun t u h => Z1c0 t.1 t.2.1 (h _ mS) (h _ (mN mS)))
noncomputable def Z186 : Env := Z65 (P := Tryz.prog) [] [] [] ckf
def Z50 (a1 : LS) : LS → Nat → Bool
 | [], i => false
 | o :: r, i => cond (!((decide ((o.name) = ((a1.getD i default).name))) && (((o.size) == ((a1.getD i default).size)) && ((o.tag) == ((a1.getD i default).tag)))))
  true
  (Z50 a1 r (i + 1))
def Za0 (a0 : LS) (a1 : LS) (i : Nat) : St :=
 ⟨Za 26 [(0, .coll ⟨.snap, a0⟩), (1, .coll ⟨.snap, a1⟩), (5, .int .i64 (i : Int))], []⟩
def Zf0 (a0 : LS) (a1 : LS) (i : Nat) : RT :=
 (.ask (decide ((i : Int) < (a0.length : Int)))
   (.need [0 ≤ (i : Int) ∧ (i : Int) < (a0.length : Int), 0 ≤ (i : Int) ∧ (i : Int) < (a1.length : Int)]
     (.ask (!((decide (((a0.getD i default).name) = ((a1.getD i default).name))) && ((((a0.getD i default).size) == ((a1.getD i default).size)) && (((a0.getD i default).tag) == ((a1.getD i default).tag)))))
       (.leaf .ret ⟨Za 26 [(4, .bool false)], []⟩ [])
       (.leaf .normal ⟨Za 26 [(0, .coll ⟨.snap, a0⟩), (1, .coll ⟨.snap, a1⟩), (5, .int .i64 (IntKind.i64.wrap ((i : Int) + (1 : Int))))], []⟩ [])))
   (.leaf (.exit 0) ⟨Za 26 [], []⟩ []))
def Z75 (a0 : LS) (a1 : LS) (i : Nat) : Tree :=
 .ask (Z50 a1 (a0.drop i) i) (.leaf .ret ⟨Za 26 [(4, .bool false)], []⟩) (.leaf (.exit 0) ⟨Za 26 [], []⟩)
theorem Z1c1 (a0 : LS) (a1 : LS) (hp0 : a0.length ≤ 1000) (hlen : a0.length < 4611686018427387904) (hn0 : a0.length = a1.length) (z : { z : Nat // z ≤ a0.length }) (Q : Exit → St → Prop) (h : (Z75 a0 a1 z.1).All Q) : Tr Tryz.prog 0 (.loop (Z47 Tryz.f26 0)) (Za0 a0 a1 z.1) Q := by
 refine Z60 (kok _ _ _ _ _ _) (E := Z186) (ι := { z : Nat // z ≤ a0.length }) 60 0 (fun _ => Z32) (fun z => Za0 a0 a1 z.1) (fun z => Z75 a0 a1 z.1) (fun z => Zf0 a0 a1 z.1) (fun z => a0.length - z.1) (fun _ => Z14.none) (fun z => by obtain ⟨i, hi⟩ := z; kernel_rfl) (fun z => by obtain ⟨i, hi⟩ := z; kernel_rfl) (fun z => by obtain ⟨i, hi⟩ := z; kernel_rfl) ?_ z Q h
 rintro ⟨i, hi⟩ Q hT
 replace hT : (Z75 a0 a1 i).All Q := hT
 replace hi : i ≤ a0.length := hi
 show (Zf0 a0 a1 i).All _
 unfold Zf0
 refine ⟨fun h0 => ?_, fun h0 => ?_⟩
 · have hlt : i < a0.length := by simpa using h0
   have hd := Z64 hlt
   have hw := Z4e (i := i) (by omega)
   refine ⟨(by (iterate 2 refine Z2 (by first | assumption | omega | ((try intro _); (try simp only [decide_eq_true_eq, decide_eq_false_iff_not, Bool.cond_false_right, Bool.cond_true_right, Bool.cond_true_left, Bool.cond_false_left, Bool.and_eq_true, Bool.or_eq_true, Bool.not_eq_true', Z18, maxLen, List.length_cons, List.length_nil, List.length_append, Z44] at *); omega)) ?_); exact Z9), ?_⟩
   refine ⟨fun h1 => ?_, fun h1 => ?_⟩
   · have hF : Z50 a1 (a0.drop i) i = true := by rw [hd]; first | exact (Z12 h1 rfl) | simp only [Z50, h0, h1, cond_true, cond_false]
     unfold Z75 at hT
     rw [hF] at hT
     exact hT.1 rfl
   · have hF : Z50 a1 (a0.drop i) i = Z50 a1 (a0.drop (i + 1)) (i + 1) := by rw [hd]; first | exact (Z3 h1 rfl) | simp only [Z50, h0, h1, cond_true, cond_false]
     refine ⟨⟨(i + 1), by show (i + 1) ≤ a0.length; omega⟩, by show a0.length - (i + 1) < a0.length - i; omega, ?_, ?_⟩
     · show _ = Za0 a0 a1 (i + 1)
       unfold Za0
       simp only [hw]
     · show (Z75 a0 a1 (i + 1)).All Q
       unfold Z75 at hT ⊢
       rw [hF] at hT
       exact hT
 · have hge : ¬ i < a0.length := by simpa using h0
   have hd : a0.drop i = [] := List.drop_eq_nil_of_le (by omega)
   have hF : Z50 a1 (a0.drop i) i = false := by rw [hd]; first | exact rfl | simp only [Z50, h0, cond_true, cond_false]
   unfold Z75 at hT
   rw [hF] at hT
   exact hT.2 rfl
def Z5d (a0 : LS) (a1 : LS) : Bool :=
 cond (!((a0.length : Int) == (a1.length : Int)))
  false
  (cond (Z50 a1 a0 0)
    false
    true)
def Z1ab (a0 : LS) (a1 : LS) : RT :=
 (.ask (!((a0.length : Int) == (a1.length : Int)))
   (.leaf .ret ⟨Za 26 [(4, .bool false)], []⟩ [])
   (.need [a0.length = a1.length]
     (.ask (Z50 a1 a0 0)
       (.leaf .ret ⟨Za 26 [(4, .bool false)], []⟩ [])
       (.leaf .ret ⟨Za 26 [(4, .bool true)], []⟩ []))))
theorem Z21a (a0 : LS) (a1 : LS) (hp0 : a0.length ≤ 1000) : Tr Tryz.prog 0 (Z3c Tryz.f26) (Z27 Tryz.f26 [.coll ⟨.snap, a0⟩, .coll ⟨.snap, a1⟩] []) (Z48 Tryz.prog Tryz.f26 (.bool (Z5d a0 a1)) []) := by
 refine Z2f (kok _ _ _ _ _ _) (E := Z186) (L := (Z5f [(0, Za0 a0 a1 0, [], .need [a0.length = a1.length] (Z75 a0 a1 0))])) 60 9999 (Z14.one (g := Z47 Tryz.f26 0) (b := 0) (by kernel_rfl) (by kernel_rfl) (by kernel_rfl) (by kernel_rfl) (fun Q h => Z1c1 a0 a1 hp0 (by omega) (h.1 _ mS) ⟨0, by first | exact Nat.zero_le _ | (show 0 ≤ a0.length; omega) | (show 0 ≤ a0.length; exact ⟨Nat.zero_le _, by assumption⟩) | (show 0 ≤ a0.length; simp)⟩ Q h.2)) (Z1ab a0 a1) (by kernel_rfl) (by kernel_rfl) (by kernel_rfl) ?_
 unfold Z1ab
 refine ⟨fun h0 => ?_, fun h0 => ?_⟩
 · have hF : Z5d a0 a1 = false := by first | exact (Z12 h0 rfl) | simp only [Z5d, h0, cond_true, cond_false]
   exact ⟨trivial, .inl (by (try rw [hF]); kernel_rfl), by (try rw [hF]); kernel_rfl⟩
 · refine ⟨Z2 (by have h9 := h0; simp only [Bool.not_eq_false', decide_eq_true_eq, beq_iff_eq] at h9; omega) (Z9), ?_⟩
   refine ⟨fun h1 => ?_, fun h1 => ?_⟩
   · have hF : Z5d a0 a1 = false := by first | exact (Z3 h0 (Z12 h1 rfl)) | simp only [Z5d, h0, h1, cond_true, cond_false]
     exact ⟨trivial, .inl (by (try rw [hF]); kernel_rfl), by (try rw [hF]); kernel_rfl⟩
   · have hF : Z5d a0 a1 = true := by first | exact (Z3 h0 (Z3 h1 rfl)) | simp only [Z5d, h0, h1, cond_true, cond_false]
     exact ⟨trivial, .inl (by (try rw [hF]); kernel_rfl), by (try rw [hF]); kernel_rfl⟩
noncomputable def Z1e2 : Fact Tryz.prog := Z4b 26 Tryz.f26 (by kernel_rfl) rfl (by kernel_rfl) [.c (.coll .snap), .c (.coll .snap)] [] true (fun t u => .bool (Z5d t.1 t.2.1)) (fun t u => []) (fun t u => [t.1.length ≤ 1000])
 (fun _ _ _ => rfl) (fun t u => by kernel_rfl) (fun t u => by kernel_rfl) (fun t u h => Z21a t.1 t.2.1 (h _ mS))
end Go.Proofs.YtkledlcmhbjadaaGreat
