/- The document's driver: what it tells, to be read. -/
import Derived.Test.YtkledlcmhbjadaaGreatDRVols
set_option linter.unusedVariables false
set_option linter.unusedSimpArgs false
set_option maxRecDepth 100000
namespace Go.Proofs.YtkledlcmhbjadaaGreat
open Go Go.Eng
noncomputable def Z28d : Env := Z65 (P := Tryz.prog) [] [] [] ckf true
def Z25d  : LV → LV → LV
 | [], v5 => v5
 | o :: r, v5 => Z25d r (v5 ++ [(⟨o.name, (o.size), o.zone, (o.tag), ([] ++ (o.nodes))⟩ : XVol)])
def Z26e (b1 : LZ) (b2 : LV) (b3 : LS) (b4 : LQ) (i : Nat) (v5 : LV) : St :=
 ⟨Za 36 [(0, .ptr 0 0), (3, .vec 5), (4, .int .i64 (i : Int))], (.cells 111 [.vec 1, .vec 2, .vec 3, .vec 4] :: oV b1 b2 b3 b4 [.vec false ⟨.vol, v5⟩])⟩
def Z277 (b1 : LZ) (b2 : LV) (b3 : LS) (b4 : LQ) (i : Nat) (v5 : LV) : RT :=
 (.ask (decide ((i : Int) < (b2.length : Int)))
   (.need [0 ≤ (i : Int) ∧ (i : Int) < (b2.length : Int)]
     (.need [(([] : List BA).length + ((b2.getD i default).nodes).length) * 16 ≤ Z18 ∧ ([] : List BA).length + ((b2.getD i default).nodes).length ≤ maxLen]
       (.need [(v5.length + [(⟨(b2.getD i default).name, ((b2.getD i default).size), (b2.getD i default).zone, ((b2.getD i default).tag), ([] ++ ((b2.getD i default).nodes))⟩ : XVol)].length) * 72 ≤ Z18 ∧ v5.length + [(⟨(b2.getD i default).name, ((b2.getD i default).size), (b2.getD i default).zone, ((b2.getD i default).tag), ([] ++ ((b2.getD i default).nodes))⟩ : XVol)].length ≤ maxLen]
         (.leaf .normal ⟨Za 36 [(0, .ptr 0 0), (3, .vec 5), (4, .int .i64 (IntKind.i64.wrap ((i : Int) + (1 : Int))))], (.cells 111 [.vec 1, .vec 2, .vec 3, .vec 4] :: oV b1 b2 b3 b4 [.vec false ⟨.vol, (v5 ++ [(⟨(b2.getD i default).name, ((b2.getD i default).size), (b2.getD i default).zone, ((b2.getD i default).tag), ([] ++ ((b2.getD i default).nodes))⟩ : XVol)])⟩])⟩ [0, 1, 2, 3, 4, 10]))))
   (.leaf (.exit 0) ⟨Za 36 [(3, .vec 5)], (.cells 111 [.vec 1, .vec 2, .vec 3, .vec 4] :: oV b1 b2 b3 b4 [.vec false ⟨.vol, v5⟩])⟩ []))
def Z268 (b1 : LZ) (b2 : LV) (b3 : LS) (b4 : LQ) (i : Nat) (v5 : LV) : Tree :=
 .leaf (.exit 0) ⟨Za 36 [(3, .vec 5)], (.cells 111 [.vec 1, .vec 2, .vec 3, .vec 4] :: oV b1 b2 b3 b4 [.vec false ⟨.vol, Z25d (b2.drop i) v5⟩])⟩
theorem Z295 (b1 : LZ) (b2 : LV) (b3 : LS) (b4 : LQ) (hp0 : b1.length ≤ 1000) (hp1 : b2.length ≤ 1000) (hp2 : b3.length ≤ 1000) (hp3 : b4.length ≤ 1000) (hp4 : ∀ v ∈ b2, v.nodes.length ≤ 1000) (hlen : b2.length < 4611686018427387904) (z : { z : Nat × LV // z.1 ≤ b2.length ∧ z.2.length ≤ z.1 }) (Q : Exit → St → Prop) (h : (Z268 b1 b2 b3 b4 z.1.1 z.1.2).All Q) : Tr Tryz.prog 5 (.loop (Z47 Tryz.f53 0)) (Z26e b1 b2 b3 b4 z.1.1 z.1.2) Q := by
 refine Z60 (kok _ _ _ _ _ _) (E := Z28d) (ι := { z : Nat × LV // z.1 ≤ b2.length ∧ z.2.length ≤ z.1 }) 60 0 (fun _ => Z32) (fun z => Z26e b1 b2 b3 b4 z.1.1 z.1.2) (fun z => Z268 b1 b2 b3 b4 z.1.1 z.1.2) (fun z => Z277 b1 b2 b3 b4 z.1.1 z.1.2) (fun z => b2.length - z.1.1) (fun _ => Z14.none) (fun z => by obtain ⟨⟨i, v5⟩, hi⟩ := z; kernel_rfl) (fun z => by obtain ⟨⟨i, v5⟩, hi⟩ := z; kernel_rfl) (fun z => by obtain ⟨⟨i, v5⟩, hi⟩ := z; kernel_rfl) ?_ z Q h
 rintro ⟨⟨i, v5⟩, hi⟩ Q hT
 replace hT : (Z268 b1 b2 b3 b4 i v5).All Q := hT
 replace hi : i ≤ b2.length ∧ v5.length ≤ i := hi
 show (Z277 b1 b2 b3 b4 i v5).All _
 unfold Z277
 refine ⟨fun h0 => ?_, fun h0 => ?_⟩
 · have hlt : i < b2.length := by simpa using h0
   have hd := Z64 hlt
   have hw := Z4e (i := i) (by omega)
   refine ⟨Z2 (by first | omega | (constructor <;> omega)) (Z9), ?_⟩
   refine ⟨Z2 (by have h8 := hp4 _ (Z172 (l := b2) (i := i) (by omega)); unfold Z18 maxLen; (try simp only [List.length_append, List.length_cons, List.length_nil]); omega) (Z9), ?_⟩
   refine ⟨Z2 (by unfold Z18 maxLen; (try simp only [List.length_append, List.length_cons, List.length_nil]); omega) (Z9), ?_⟩
   have hF : Z25d (b2.drop i) v5 = Z25d (b2.drop (i + 1)) (v5 ++ [(⟨(b2.getD i default).name, ((b2.getD i default).size), (b2.getD i default).zone, ((b2.getD i default).tag), ([] ++ ((b2.getD i default).nodes))⟩ : XVol)]) := by rw [hd]; first | exact rfl | simp only [Z25d, h0, cond_true, cond_false]
   refine ⟨⟨((i + 1), (v5 ++ [(⟨(b2.getD i default).name, ((b2.getD i default).size), (b2.getD i default).zone, ((b2.getD i default).tag), ([] ++ ((b2.getD i default).nodes))⟩ : XVol)])), by (first | dsimp only | skip); constructor <;> (try simp only [List.length_append, List.length_cons, List.length_nil]) <;> omega⟩, by show b2.length - (i + 1) < b2.length - i; omega, ?_, ?_⟩
   · show _ = Z26e b1 b2 b3 b4 (i + 1) (v5 ++ [(⟨(b2.getD i default).name, ((b2.getD i default).size), (b2.getD i default).zone, ((b2.getD i default).tag), ([] ++ ((b2.getD i default).nodes))⟩ : XVol)])
     unfold Z26e
     simp only [hw]
   · show (Z268 b1 b2 b3 b4 (i + 1) (v5 ++ [(⟨(b2.getD i default).name, ((b2.getD i default).size), (b2.getD i default).zone, ((b2.getD i default).tag), ([] ++ ((b2.getD i default).nodes))⟩ : XVol)])).All Q
     unfold Z268 at hT ⊢
     rw [hF] at hT
     exact hT
 · have hge : ¬ i < b2.length := by simpa using h0
   have hd : b2.drop i = [] := List.drop_eq_nil_of_le (by omega)
   have hF : Z25d (b2.drop i) v5 = v5 := by rw [hd]; first | exact rfl | simp only [Z25d, h0, cond_true, cond_false]
   unfold Z268 at hT
   rw [hF] at hT
   exact hT
def Z267 (b1 : LZ) (b2 : LV) (b3 : LS) (b4 : LQ) : LV :=
 Z25d b2 []
def Z294 (b1 : LZ) (b2 : LV) (b3 : LS) (b4 : LQ) : RT :=
 (.leaf .ret ⟨Za 36 [(2, .vec 5)], (.cells 111 [.vec 1, .vec 2, .vec 3, .vec 4] :: oV b1 b2 b3 b4 [.vec false ⟨.vol, Z25d b2 []⟩])⟩ [])
theorem Z2a0 (b1 : LZ) (b2 : LV) (b3 : LS) (b4 : LQ) (hp0 : b1.length ≤ 1000) (hp1 : b2.length ≤ 1000) (hp2 : b3.length ≤ 1000) (hp3 : b4.length ≤ 1000) (hp4 : ∀ v ∈ b2, v.nodes.length ≤ 1000) : Tr Tryz.prog 5 (Z3c Tryz.f53) (Z27 Tryz.f53 [.ptr 0 0] (.cells 111 [.vec 1, .vec 2, .vec 3, .vec 4] :: oV b1 b2 b3 b4 [])) (Z48 Tryz.prog Tryz.f53 (.coll ⟨.vol, Z267 b1 b2 b3 b4⟩) (.cells 111 [.vec 1, .vec 2, .vec 3, .vec 4] :: oV b1 b2 b3 b4 [])) := by
 refine Tr.post ?_
 refine Z2f (kok _ _ _ _ _ _) (E := Z28d) (L := (Z5f [(0, Z26e b1 b2 b3 b4 0 [], [0, 1, 2, 3, 4, 6], Z268 b1 b2 b3 b4 0 [])])) 60 9999 (Z14.one (g := Z47 Tryz.f53 0) (b := 0) (by kernel_rfl) (by kernel_rfl) (by kernel_rfl) (by kernel_rfl) (fun Q h => Z295 b1 b2 b3 b4 hp0 hp1 hp2 hp3 hp4 (by omega) ⟨(0, []), ⟨Nat.zero_le _, Nat.le_refl _⟩⟩ Q h)) (Z294 b1 b2 b3 b4) (by kernel_rfl) (by kernel_rfl) (by kernel_rfl) ?_
 unfold Z294
 have hF : Z267 b1 b2 b3 b4 = (Z25d b2 []) := rfl
 exact ⟨_, Turn.frz 5 rfl, trivial, .inr (by (try rw [hF]); kernel_rfl), by (try rw [hF]); kernel_rfl⟩
noncomputable def Z298 : Fact Tryz.prog := Z4b 53 Tryz.f53 (by kernel_rfl) rfl (by kernel_rfl) [.c (.ptr 0 0)] [.cells 111 [.vec 1, .vec 2, .vec 3, .vec 4], .vec false .zone, .vec false .vol, .vec false .snap, .vec false .done] true (fun t u => .coll ⟨.vol, Z267 u.2.1 u.2.2.1 u.2.2.2.1 u.2.2.2.2.1⟩) (fun t u => HPL.enc _ u) (fun t u => [u.2.1.length ≤ 1000, u.2.2.1.length ≤ 1000, u.2.2.2.1.length ≤ 1000, u.2.2.2.2.1.length ≤ 1000, ∀ v ∈ u.2.2.1, v.nodes.length ≤ 1000])
 (fun _ _ _ => rfl) (fun t u => by kernel_rfl) (fun t u => by kernel_rfl) (fun t u h => Z2a0 u.2.1 u.2.2.1 u.2.2.2.1 u.2.2.2.2.1 (h _ mS) (h _ (mN mS)) (h _ (mN (mN mS))) (h _ (mN (mN (mN mS)))) (h _ (mN (mN (mN (mN mS))))))
noncomputable def E_rD_Snaps_2 : Env := Z65 (P := Tryz.prog) [] [] [] ckf true
def Z26d (b1 : LZ) (b2 : LV) (b3 : LS) (b4 : LQ) : LS :=
 ([] ++ b3)
def rD_Snaps_2R (b1 : LZ) (b2 : LV) (b3 : LS) (b4 : LQ) : RT :=
 (.ask false
   .fail
   (.need [(([] : LS).length + b3.length) * 32 ≤ Z18 ∧ ([] : LS).length + b3.length ≤ maxLen]
     (.leaf .ret ⟨Za 11 [(2, .vec 5)], (.cells 111 [.vec 1, .vec 2, .vec 3, .vec 4] :: oV b1 b2 b3 b4 [.vec false ⟨.snap, ([] ++ b3)⟩])⟩ [0, 1, 2, 3, 4, 7])))
theorem rD_Snaps_2F_tr (b1 : LZ) (b2 : LV) (b3 : LS) (b4 : LQ) (hp0 : b1.length ≤ 1000) (hp1 : b2.length ≤ 1000) (hp2 : b3.length ≤ 1000) (hp3 : b4.length ≤ 1000) (hp4 : ∀ v ∈ b2, v.nodes.length ≤ 1000) : Tr Tryz.prog 5 (Z3c Tryz.f54) (Z27 Tryz.f54 [.ptr 0 0] (.cells 111 [.vec 1, .vec 2, .vec 3, .vec 4] :: oV b1 b2 b3 b4 [])) (Z48 Tryz.prog Tryz.f54 (.coll ⟨.snap, Z26d b1 b2 b3 b4⟩) (.cells 111 [.vec 1, .vec 2, .vec 3, .vec 4] :: oV b1 b2 b3 b4 [])) := by
 refine Tr.post ?_
 refine Z2f (kok _ _ _ _ _ _) (E := E_rD_Snaps_2) (L := Z32) 60 9999 Z14.none (rD_Snaps_2R b1 b2 b3 b4) (by kernel_rfl) (by kernel_rfl) (by kernel_rfl) ?_
 unfold rD_Snaps_2R
 refine ⟨fun h0 => ?_, fun h0 => ?_⟩
 · exact absurd h0 (by simp)
 · refine ⟨Z2 (by unfold Z18 maxLen; (try simp only [List.length_append, List.length_cons, List.length_nil]); omega) (Z9), ?_⟩
   have hF : Z26d b1 b2 b3 b4 = ([] ++ b3) := by first | exact rfl | simp only [Z26d, h0, cond_true, cond_false]
   exact ⟨_, Turn.frz 5 rfl, trivial, .inr (by (try rw [hF]); kernel_rfl), by (try rw [hF]); kernel_rfl⟩
noncomputable def rD_Snaps_2_fact : Fact Tryz.prog := Z4b 54 Tryz.f54 (by kernel_rfl) rfl (by kernel_rfl) [.c (.ptr 0 0)] [.cells 111 [.vec 1, .vec 2, .vec 3, .vec 4], .vec false .zone, .vec false .vol, .vec false .snap, .vec false .done] true (fun t u => .coll ⟨.snap, Z26d u.2.1 u.2.2.1 u.2.2.2.1 u.2.2.2.2.1⟩) (fun t u => HPL.enc _ u) (fun t u => [u.2.1.length ≤ 1000, u.2.2.1.length ≤ 1000, u.2.2.2.1.length ≤ 1000, u.2.2.2.2.1.length ≤ 1000, ∀ v ∈ u.2.2.1, v.nodes.length ≤ 1000])
 (fun _ _ _ => rfl) (fun t u => by kernel_rfl) (fun t u => by kernel_rfl) (fun t u h => rD_Snaps_2F_tr u.2.1 u.2.2.1 u.2.2.2.1 u.2.2.2.2.1 (h _ mS) (h _ (mN mS)) (h _ (mN (mN mS))) (h _ (mN (mN (mN mS)))) (h _ (mN (mN (mN (mN mS))))))
end Go.Proofs.YtkledlcmhbjadaaGreat
