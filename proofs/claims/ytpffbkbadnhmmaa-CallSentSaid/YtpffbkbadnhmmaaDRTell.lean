/- The document's driver: what it tells, to be read. -/
import Derived.Test.YtpffbkbadnhmmaaDRVols
set_option linter.unusedVariables false
set_option linter.unusedSimpArgs false
set_option maxRecDepth 100000
namespace Go.Proofs.Ytpffbkbadnhmmaa
open Go Go.Eng
noncomputable def E_rD_Volumes_2 : Env := envOf (P := Try.prog) [] [] [] ckf true
def Z44  : LV → LV → LV
 | [], v5 => v5
 | o :: r, v5 => Z44 r (v5 ++ [(⟨o.name, (o.size), o.zone, (o.tag), ([] ++ (o.nodes))⟩ : XVol)])
def Z87 (b1 : LZ) (b2 : LV) (b3 : LS) (b4 : LQ) (i : Nat) (v5 : LV) : St :=
 ⟨slots 36 [(0, .ptr 0 0), (3, .vec 5), (4, .int .i64 (i : Int))], (.cells 106 [.vec 1, .vec 2, .vec 3, .vec 4] :: oV b1 b2 b3 b4 [.vec false ⟨.vol, v5⟩])⟩
def Zbe (b1 : LZ) (b2 : LV) (b3 : LS) (b4 : LQ) (i : Nat) (v5 : LV) : RT :=
 (.ask (decide ((i : Int) < (b2.length : Int)))
   (.need [0 ≤ (i : Int) ∧ (i : Int) < (b2.length : Int)]
     (.need [(([] : List BA).length + ((b2.getD i default).nodes).length) * 16 ≤ bytesLim ∧ ([] : List BA).length + ((b2.getD i default).nodes).length ≤ maxLen]
       (.need [(v5.length + [(⟨(b2.getD i default).name, ((b2.getD i default).size), (b2.getD i default).zone, ((b2.getD i default).tag), ([] ++ ((b2.getD i default).nodes))⟩ : XVol)].length) * 72 ≤ bytesLim ∧ v5.length + [(⟨(b2.getD i default).name, ((b2.getD i default).size), (b2.getD i default).zone, ((b2.getD i default).tag), ([] ++ ((b2.getD i default).nodes))⟩ : XVol)].length ≤ maxLen]
         (.leaf .normal ⟨slots 36 [(0, .ptr 0 0), (3, .vec 5), (4, .int .i64 (IntKind.i64.wrap ((i : Int) + (1 : Int))))], (.cells 106 [.vec 1, .vec 2, .vec 3, .vec 4] :: oV b1 b2 b3 b4 [.vec false ⟨.vol, (v5 ++ [(⟨(b2.getD i default).name, ((b2.getD i default).size), (b2.getD i default).zone, ((b2.getD i default).tag), ([] ++ ((b2.getD i default).nodes))⟩ : XVol)])⟩])⟩ [0, 1, 2, 3, 4, 10]))))
   (.leaf (.exit 0) ⟨slots 36 [(3, .vec 5)], (.cells 106 [.vec 1, .vec 2, .vec 3, .vec 4] :: oV b1 b2 b3 b4 [.vec false ⟨.vol, v5⟩])⟩ []))
def Z6f (b1 : LZ) (b2 : LV) (b3 : LS) (b4 : LQ) (i : Nat) (v5 : LV) : Tree :=
 .leaf (.exit 0) ⟨slots 36 [(3, .vec 5)], (.cells 106 [.vec 1, .vec 2, .vec 3, .vec 4] :: oV b1 b2 b3 b4 [.vec false ⟨.vol, Z44 (b2.drop i) v5⟩])⟩
theorem Z133 (b1 : LZ) (b2 : LV) (b3 : LS) (b4 : LQ) (hp0 : b1.length ≤ 1000) (hp1 : b2.length ≤ 1000) (hp2 : b3.length ≤ 1000) (hp3 : b4.length ≤ 1000) (hp4 : ∀ v ∈ b2, v.nodes.length ≤ 1000) (hlen : b2.length < 4611686018427387904) (z : { z : Nat × LV // z.1 ≤ b2.length ∧ z.2.length ≤ z.1 }) (Q : Exit → St → Prop) (h : (Z6f b1 b2 b3 b4 z.1.1 z.1.2).All Q) : Tr Try.prog 5 (.loop (loopAt Try.f62 0)) (Z87 b1 b2 b3 b4 z.1.1 z.1.2) Q := by
 refine Tr_loopT (kok _ _ _ _ _ _) (E := E_rD_Volumes_2) (ι := { z : Nat × LV // z.1 ≤ b2.length ∧ z.2.length ≤ z.1 }) 60 0 (fun _ => noLoops) (fun z => Z87 b1 b2 b3 b4 z.1.1 z.1.2) (fun z => Z6f b1 b2 b3 b4 z.1.1 z.1.2) (fun z => Zbe b1 b2 b3 b4 z.1.1 z.1.2) (fun z => b2.length - z.1.1) (fun _ => Z11.none) (fun z => by obtain ⟨⟨i, v5⟩, hi⟩ := z; kernel_rfl) (fun z => by obtain ⟨⟨i, v5⟩, hi⟩ := z; kernel_rfl) (fun z => by obtain ⟨⟨i, v5⟩, hi⟩ := z; kernel_rfl) ?_ z Q h
 rintro ⟨⟨i, v5⟩, hi⟩ Q hT
 replace hT : (Z6f b1 b2 b3 b4 i v5).All Q := hT
 replace hi : i ≤ b2.length ∧ v5.length ≤ i := hi
 show (Zbe b1 b2 b3 b4 i v5).All _
 unfold Zbe
 refine ⟨fun h0 => ?_, fun h0 => ?_⟩
 · have hlt : i < b2.length := by simpa using h0
   have hd := drop_getD hlt
   have hw := wrap_succ (i := i) (by omega)
   refine ⟨Z5 (by (try refine fun (_ : _ = _) => ?_); (try refine fun (_ : _ ∧ _) => ?_); first | omega | (constructor <;> omega)) (Z9), ?_⟩
   refine ⟨Z5 (by (try refine fun (_ : _ = _) => ?_); (try refine fun (_ : _ ∧ _) => ?_); have h8 := hp4 _ (gD_mem (l := b2) (i := i) (by omega)); unfold bytesLim maxLen; (try simp only [List.length_append, List.length_cons, List.length_nil]); omega) (Z9), ?_⟩
   refine ⟨Z5 (by (try refine fun (_ : _ = _) => ?_); (try refine fun (_ : _ ∧ _) => ?_); unfold bytesLim maxLen; (try simp only [List.length_append, List.length_cons, List.length_nil]); omega) (Z9), ?_⟩
   have hF : Z44 (b2.drop i) v5 = Z44 (b2.drop (i + 1)) (v5 ++ [(⟨(b2.getD i default).name, ((b2.getD i default).size), (b2.getD i default).zone, ((b2.getD i default).tag), ([] ++ ((b2.getD i default).nodes))⟩ : XVol)]) := by rw [hd]; first | exact rfl | simp only [Z44, h0, cond_true, cond_false]
   refine ⟨⟨((i + 1), (v5 ++ [(⟨(b2.getD i default).name, ((b2.getD i default).size), (b2.getD i default).zone, ((b2.getD i default).tag), ([] ++ ((b2.getD i default).nodes))⟩ : XVol)])), by (first | dsimp only | skip); constructor <;> (try simp only [List.length_append, List.length_cons, List.length_nil]) <;> omega⟩, by show b2.length - (i + 1) < b2.length - i; omega, ?_, ?_⟩
   · show _ = Z87 b1 b2 b3 b4 (i + 1) (v5 ++ [(⟨(b2.getD i default).name, ((b2.getD i default).size), (b2.getD i default).zone, ((b2.getD i default).tag), ([] ++ ((b2.getD i default).nodes))⟩ : XVol)])
     unfold Z87
     simp only [hw]
   · show (Z6f b1 b2 b3 b4 (i + 1) (v5 ++ [(⟨(b2.getD i default).name, ((b2.getD i default).size), (b2.getD i default).zone, ((b2.getD i default).tag), ([] ++ ((b2.getD i default).nodes))⟩ : XVol)])).All Q
     unfold Z6f at hT ⊢
     rw [hF] at hT
     exact hT
 · have hge : ¬ i < b2.length := by simpa using h0
   have hd : b2.drop i = [] := List.drop_eq_nil_of_le (by omega)
   have hF : Z44 (b2.drop i) v5 = v5 := by rw [hd]; first | exact rfl | simp only [Z44, h0, cond_true, cond_false]
   unfold Z6f at hT
   rw [hF] at hT
   exact hT
def Z68 (b1 : LZ) (b2 : LV) (b3 : LS) (b4 : LQ) : LV :=
 Z44 b2 []
def Z132 (b1 : LZ) (b2 : LV) (b3 : LS) (b4 : LQ) : RT :=
 (.leaf .ret ⟨slots 36 [(2, .vec 5)], (.cells 106 [.vec 1, .vec 2, .vec 3, .vec 4] :: oV b1 b2 b3 b4 [.vec false ⟨.vol, Z44 b2 []⟩])⟩ [])
theorem Z156 (b1 : LZ) (b2 : LV) (b3 : LS) (b4 : LQ) (hp0 : b1.length ≤ 1000) (hp1 : b2.length ≤ 1000) (hp2 : b3.length ≤ 1000) (hp3 : b4.length ≤ 1000) (hp4 : ∀ v ∈ b2, v.nodes.length ≤ 1000) : Tr Try.prog 5 (bodyOf Try.f62) (fnBegins Try.f62 [.ptr 0 0] (.cells 106 [.vec 1, .vec 2, .vec 3, .vec 4] :: oV b1 b2 b3 b4 [])) (fnEnds Try.prog Try.f62 (.coll ⟨.vol, Z68 b1 b2 b3 b4⟩) (.cells 106 [.vec 1, .vec 2, .vec 3, .vec 4] :: oV b1 b2 b3 b4 [])) := by
 refine Tr.post ?_
 refine Tr_tree (kok _ _ _ _ _ _) (E := E_rD_Volumes_2) (L := (loopsOf [(0, Z87 b1 b2 b3 b4 0 [], [0, 1, 2, 3, 4, 6], Z6f b1 b2 b3 b4 0 [])])) 60 9999 (Z11.one (g := loopAt Try.f62 0) (b := 0) (by kernel_rfl) (by kernel_rfl) (by kernel_rfl) (by kernel_rfl) (fun Q h => Z133 b1 b2 b3 b4 hp0 hp1 hp2 hp3 hp4 (by omega) ⟨(0, []), ⟨Nat.zero_le _, Nat.le_refl _⟩⟩ Q h)) (Z132 b1 b2 b3 b4) (by kernel_rfl) (by kernel_rfl) (by kernel_rfl) ?_
 unfold Z132
 have hF : Z68 b1 b2 b3 b4 = (Z44 b2 []) := rfl
 exact ⟨_, Turn.frz 5 rfl, trivial, .inr (by (try rw [hF]); kernel_rfl), by (try rw [hF]); kernel_rfl⟩
noncomputable def Z142 : Fact Try.prog := factOf 62 Try.f62 (by kernel_rfl) rfl (by kernel_rfl) [.c (.ptr 0 0)] [.cells 106 [.vec 1, .vec 2, .vec 3, .vec 4], .vec false .zone, .vec false .vol, .vec false .snap, .vec false .done] true (fun t u => .coll ⟨.vol, Z68 u.2.1 u.2.2.1 u.2.2.2.1 u.2.2.2.2.1⟩) (fun t u => HPL.enc _ u) (fun t u => [u.2.1.length ≤ 1000, u.2.2.1.length ≤ 1000, u.2.2.2.1.length ≤ 1000, u.2.2.2.2.1.length ≤ 1000, ∀ v ∈ u.2.2.1, v.nodes.length ≤ 1000])
 (fun _ _ _ => rfl) (fun t u => by kernel_rfl) (fun t u => by kernel_rfl) (fun t u h => Z156 u.2.1 u.2.2.1 u.2.2.2.1 u.2.2.2.2.1 (h _ mS) (h _ (mN mS)) (h _ (mN (mN mS))) (h _ (mN (mN (mN mS)))) (h _ (mN (mN (mN (mN mS))))))
noncomputable def E_rD_Snaps_2 : Env := envOf (P := Try.prog) [] [] [] ckf true
def Z83 (b1 : LZ) (b2 : LV) (b3 : LS) (b4 : LQ) : LS :=
 ([] ++ b3)
def rD_Snaps_2R (b1 : LZ) (b2 : LV) (b3 : LS) (b4 : LQ) : RT :=
 (.ask false
   .fail
   (.need [(([] : LS).length + b3.length) * 32 ≤ bytesLim ∧ ([] : LS).length + b3.length ≤ maxLen]
     (.leaf .ret ⟨slots 11 [(2, .vec 5)], (.cells 106 [.vec 1, .vec 2, .vec 3, .vec 4] :: oV b1 b2 b3 b4 [.vec false ⟨.snap, ([] ++ b3)⟩])⟩ [0, 1, 2, 3, 4, 7])))
theorem rD_Snaps_2F_tr (b1 : LZ) (b2 : LV) (b3 : LS) (b4 : LQ) (hp0 : b1.length ≤ 1000) (hp1 : b2.length ≤ 1000) (hp2 : b3.length ≤ 1000) (hp3 : b4.length ≤ 1000) (hp4 : ∀ v ∈ b2, v.nodes.length ≤ 1000) : Tr Try.prog 5 (bodyOf Try.f64) (fnBegins Try.f64 [.ptr 0 0] (.cells 106 [.vec 1, .vec 2, .vec 3, .vec 4] :: oV b1 b2 b3 b4 [])) (fnEnds Try.prog Try.f64 (.coll ⟨.snap, Z83 b1 b2 b3 b4⟩) (.cells 106 [.vec 1, .vec 2, .vec 3, .vec 4] :: oV b1 b2 b3 b4 [])) := by
 refine Tr.post ?_
 refine Tr_tree (kok _ _ _ _ _ _) (E := E_rD_Snaps_2) (L := noLoops) 60 9999 Z11.none (rD_Snaps_2R b1 b2 b3 b4) (by kernel_rfl) (by kernel_rfl) (by kernel_rfl) ?_
 unfold rD_Snaps_2R
 refine ⟨fun h0 => ?_, fun h0 => ?_⟩
 · exact absurd h0 (by simp)
 · refine ⟨Z5 (by (try refine fun (_ : _ = _) => ?_); (try refine fun (_ : _ ∧ _) => ?_); unfold bytesLim maxLen; (try simp only [List.length_append, List.length_cons, List.length_nil]); omega) (Z9), ?_⟩
   have hF : Z83 b1 b2 b3 b4 = ([] ++ b3) := by first | exact rfl | simp only [Z83, h0, cond_true, cond_false]
   exact ⟨_, Turn.frz 5 rfl, trivial, .inr (by (try rw [hF]); kernel_rfl), by (try rw [hF]); kernel_rfl⟩
noncomputable def rD_Snaps_2_fact : Fact Try.prog := factOf 64 Try.f64 (by kernel_rfl) rfl (by kernel_rfl) [.c (.ptr 0 0)] [.cells 106 [.vec 1, .vec 2, .vec 3, .vec 4], .vec false .zone, .vec false .vol, .vec false .snap, .vec false .done] true (fun t u => .coll ⟨.snap, Z83 u.2.1 u.2.2.1 u.2.2.2.1 u.2.2.2.2.1⟩) (fun t u => HPL.enc _ u) (fun t u => [u.2.1.length ≤ 1000, u.2.2.1.length ≤ 1000, u.2.2.2.1.length ≤ 1000, u.2.2.2.2.1.length ≤ 1000, ∀ v ∈ u.2.2.1, v.nodes.length ≤ 1000])
 (fun _ _ _ => rfl) (fun t u => by kernel_rfl) (fun t u => by kernel_rfl) (fun t u h => rD_Snaps_2F_tr u.2.1 u.2.2.1 u.2.2.2.1 u.2.2.2.2.1 (h _ mS) (h _ (mN mS)) (h _ (mN (mN mS))) (h _ (mN (mN (mN mS)))) (h _ (mN (mN (mN (mN mS))))))
end Go.Proofs.Ytpffbkbadnhmmaa
