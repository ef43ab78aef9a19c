/- The document's driver: what it tells. -/
import Derived.Test.YtpffbkbadnhmmaaDRGets
set_option linter.unusedVariables false
set_option linter.unusedSimpArgs false
set_option maxRecDepth 100000
namespace Go.Proofs.Ytpffbkbadnhmmaa
open Go Go.Eng
noncomputable def E_rD_Volumes : Env := envOf (P := Try.prog) [] [] [] ckf true
def Z47  : List XVol → List XVol → List XVol
 | [], v5 => v5
 | o :: r, v5 => Z47 r (v5 ++ [(⟨o.name, (o.size), o.zone, (o.tag), ([] ++ (o.nodes))⟩ : XVol)])
def rD_VolumesLS (b1 : List XZone) (b2 : List XVol) (b3 : List XSnap) (b4 : List XDone) (i : Nat) (v5 : List XVol) : St :=
 ⟨slots 36 [(0, .ptr 0 0), (3, .vec 5), (4, .int .i64 (i : Int))], (.cells 106 [.vec 1, .vec 2, .vec 3, .vec 4] :: oV b1 b2 b3 b4 [.vec false ⟨.vol, v5⟩])⟩
def rD_VolumesLR (b1 : List XZone) (b2 : List XVol) (b3 : List XSnap) (b4 : List XDone) (i : Nat) (v5 : List XVol) : RT :=
 (.ask (decide ((i : Int) < (b2.length : Int)))
   (.need [0 ≤ (i : Int) ∧ (i : Int) < (b2.length : Int)]
     (.need [(([] : List ByteArray).length + ((b2.getD i default).nodes).length) * 16 ≤ bytesLim ∧ ([] : List ByteArray).length + ((b2.getD i default).nodes).length ≤ maxLen]
       (.need [(v5.length + [(⟨(b2.getD i default).name, ((b2.getD i default).size), (b2.getD i default).zone, ((b2.getD i default).tag), ([] ++ ((b2.getD i default).nodes))⟩ : XVol)].length) * 72 ≤ bytesLim ∧ v5.length + [(⟨(b2.getD i default).name, ((b2.getD i default).size), (b2.getD i default).zone, ((b2.getD i default).tag), ([] ++ ((b2.getD i default).nodes))⟩ : XVol)].length ≤ maxLen]
         (.leaf .normal ⟨slots 36 [(0, .ptr 0 0), (3, .vec 5), (4, .int .i64 (IntKind.i64.wrap ((i : Int) + (1 : Int))))], (.cells 106 [.vec 1, .vec 2, .vec 3, .vec 4] :: oV b1 b2 b3 b4 [.vec false ⟨.vol, (v5 ++ [(⟨(b2.getD i default).name, ((b2.getD i default).size), (b2.getD i default).zone, ((b2.getD i default).tag), ([] ++ ((b2.getD i default).nodes))⟩ : XVol)])⟩])⟩ [0, 1, 2, 3, 4, 10]))))
   (.leaf (.exit 0) ⟨slots 36 [(3, .vec 5)], (.cells 106 [.vec 1, .vec 2, .vec 3, .vec 4] :: oV b1 b2 b3 b4 [.vec false ⟨.vol, v5⟩])⟩ []))
def Z66 (b1 : List XZone) (b2 : List XVol) (b3 : List XSnap) (b4 : List XDone) (i : Nat) (v5 : List XVol) : Tree :=
 .leaf (.exit 0) ⟨slots 36 [(3, .vec 5)], (.cells 106 [.vec 1, .vec 2, .vec 3, .vec 4] :: oV b1 b2 b3 b4 [.vec false ⟨.vol, Z47 (b2.drop i) v5⟩])⟩
theorem rD_VolumesL_loop (b1 : List XZone) (b2 : List XVol) (b3 : List XSnap) (b4 : List XDone) (hp0 : b1.length ≤ 1000) (hp1 : b2.length ≤ 1000) (hp2 : b3.length ≤ 1000) (hp3 : b4.length ≤ 1000) (hp4 : ∀ v ∈ b2, v.nodes.length ≤ 1000) (hlen : b2.length < 4611686018427387904) (z : { z : Nat × List XVol // z.1 ≤ b2.length ∧ z.2.length ≤ z.1 }) (Q : Exit → St → Prop) (h : (Z66 b1 b2 b3 b4 z.1.1 z.1.2).All Q) : Tr Try.prog 5 (.loop (loopAt Try.f62 0)) (rD_VolumesLS b1 b2 b3 b4 z.1.1 z.1.2) Q := by
 refine Tr_loopT (kok _ _ _ _ _ _) (E := E_rD_Volumes) (ι := { z : Nat × List XVol // z.1 ≤ b2.length ∧ z.2.length ≤ z.1 }) 60 0 (fun _ => noLoops) (fun z => rD_VolumesLS b1 b2 b3 b4 z.1.1 z.1.2) (fun z => Z66 b1 b2 b3 b4 z.1.1 z.1.2) (fun z => rD_VolumesLR b1 b2 b3 b4 z.1.1 z.1.2) (fun z => b2.length - z.1.1) (fun _ => Z10.none) (fun z => by obtain ⟨⟨i, v5⟩, hi⟩ := z; kernel_rfl) (fun z => by obtain ⟨⟨i, v5⟩, hi⟩ := z; kernel_rfl) (fun z => by obtain ⟨⟨i, v5⟩, hi⟩ := z; kernel_rfl) ?_ z Q h
 rintro ⟨⟨i, v5⟩, hi⟩ Q hT
 replace hT : (Z66 b1 b2 b3 b4 i v5).All Q := hT
 replace hi : i ≤ b2.length ∧ v5.length ≤ i := hi
 show (rD_VolumesLR b1 b2 b3 b4 i v5).All _
 unfold rD_VolumesLR
 refine ⟨fun h0 => ?_, fun h0 => ?_⟩
 · have hlt : i < b2.length := by simpa using h0
   have hd := drop_getD hlt
   have hw := wrap_succ (i := i) (by omega)
   refine ⟨Z1 (by (try refine fun (_ : _ = _) => ?_); (try refine fun (_ : _ ∧ _) => ?_); first | omega | (constructor <;> omega)) (Z7), ?_⟩
   refine ⟨Z1 (by (try refine fun (_ : _ = _) => ?_); (try refine fun (_ : _ ∧ _) => ?_); have h8 := hp4 _ (gD_mem (l := b2) (i := i) (by omega)); unfold bytesLim maxLen; (try simp only [List.length_append, List.length_cons, List.length_nil]); omega) (Z7), ?_⟩
   refine ⟨Z1 (by (try refine fun (_ : _ = _) => ?_); (try refine fun (_ : _ ∧ _) => ?_); unfold bytesLim maxLen; (try simp only [List.length_append, List.length_cons, List.length_nil]); omega) (Z7), ?_⟩
   have hF : Z47 (b2.drop i) v5 = Z47 (b2.drop (i + 1)) (v5 ++ [(⟨(b2.getD i default).name, ((b2.getD i default).size), (b2.getD i default).zone, ((b2.getD i default).tag), ([] ++ ((b2.getD i default).nodes))⟩ : XVol)]) := by rw [hd]; first | exact rfl | simp only [Z47, h0, cond_true, cond_false]
   refine ⟨⟨((i + 1), (v5 ++ [(⟨(b2.getD i default).name, ((b2.getD i default).size), (b2.getD i default).zone, ((b2.getD i default).tag), ([] ++ ((b2.getD i default).nodes))⟩ : XVol)])), by (first | dsimp only | skip); constructor <;> (try simp only [List.length_append, List.length_cons, List.length_nil]) <;> omega⟩, by show b2.length - (i + 1) < b2.length - i; omega, ?_, ?_⟩
   · show _ = rD_VolumesLS b1 b2 b3 b4 (i + 1) (v5 ++ [(⟨(b2.getD i default).name, ((b2.getD i default).size), (b2.getD i default).zone, ((b2.getD i default).tag), ([] ++ ((b2.getD i default).nodes))⟩ : XVol)])
     unfold rD_VolumesLS
     simp only [hw]
   · show (Z66 b1 b2 b3 b4 (i + 1) (v5 ++ [(⟨(b2.getD i default).name, ((b2.getD i default).size), (b2.getD i default).zone, ((b2.getD i default).tag), ([] ++ ((b2.getD i default).nodes))⟩ : XVol)])).All Q
     unfold Z66 at hT ⊢
     rw [hF] at hT
     exact hT
 · have hge : ¬ i < b2.length := by simpa using h0
   have hd : b2.drop i = [] := List.drop_eq_nil_of_le (by omega)
   have hF : Z47 (b2.drop i) v5 = v5 := by rw [hd]; first | exact rfl | simp only [Z47, h0, cond_true, cond_false]
   unfold Z66 at hT
   rw [hF] at hT
   exact hT
def Z67 (b1 : List XZone) (b2 : List XVol) (b3 : List XSnap) (b4 : List XDone) : List XVol :=
 Z47 b2 []
def rD_VolumesR (b1 : List XZone) (b2 : List XVol) (b3 : List XSnap) (b4 : List XDone) : RT :=
 (.leaf .ret ⟨slots 36 [(2, .vec 5)], (.cells 106 [.vec 1, .vec 2, .vec 3, .vec 4] :: oV b1 b2 b3 b4 [.vec false ⟨.vol, Z47 b2 []⟩])⟩ [])
theorem rD_VolumesF_tr (b1 : List XZone) (b2 : List XVol) (b3 : List XSnap) (b4 : List XDone) (hp0 : b1.length ≤ 1000) (hp1 : b2.length ≤ 1000) (hp2 : b3.length ≤ 1000) (hp3 : b4.length ≤ 1000) (hp4 : ∀ v ∈ b2, v.nodes.length ≤ 1000) : Tr Try.prog 5 (bodyOf Try.f62) (fnBegins Try.f62 [.ptr 0 0] (.cells 106 [.vec 1, .vec 2, .vec 3, .vec 4] :: oV b1 b2 b3 b4 [])) (fnEnds Try.prog Try.f62 (.vec 5) (.cells 106 [.vec 1, .vec 2, .vec 3, .vec 4] :: oV b1 b2 b3 b4 [.vec false ⟨.vol, Z67 b1 b2 b3 b4⟩])) := by
 refine Tr_tree (kok _ _ _ _ _ _) (E := E_rD_Volumes) (L := (loopsOf [(0, rD_VolumesLS b1 b2 b3 b4 0 [], [0, 1, 2, 3, 4, 6], Z66 b1 b2 b3 b4 0 [])])) 60 9999 (Z10.one (g := loopAt Try.f62 0) (b := 0) (by kernel_rfl) (by kernel_rfl) (by kernel_rfl) (by kernel_rfl) (fun Q h => rD_VolumesL_loop b1 b2 b3 b4 hp0 hp1 hp2 hp3 hp4 (by omega) ⟨(0, []), ⟨Nat.zero_le _, Nat.le_refl _⟩⟩ Q h)) (rD_VolumesR b1 b2 b3 b4) (by kernel_rfl) (by kernel_rfl) (by kernel_rfl) ?_
 unfold rD_VolumesR
 exact ⟨trivial, .inl (by kernel_rfl), by kernel_rfl⟩
noncomputable def rD_Volumes_fact0 : Fact Try.prog := factOf 62 Try.f62 (by kernel_rfl) rfl (by kernel_rfl) [.c (.ptr 0 0)] [.cells 106 [.vec 1, .vec 2, .vec 3, .vec 4], .vec false .zone, .vec false .vol, .vec false .snap, .vec false .done] false (fun t u => .vec 5) (fun t u => (.cells 106 [.vec 1, .vec 2, .vec 3, .vec 4] :: oV (u.2.1) (u.2.2.1) (u.2.2.2.1) (u.2.2.2.2.1) [.vec false ⟨.vol, Z67 u.2.1 u.2.2.1 u.2.2.2.1 u.2.2.2.2.1⟩])) (fun t u => [u.2.1.length ≤ 1000, u.2.2.1.length ≤ 1000, u.2.2.2.1.length ≤ 1000, u.2.2.2.2.1.length ≤ 1000, ∀ v ∈ u.2.2.1, v.nodes.length ≤ 1000])
 (nofun) (fun t u => by kernel_rfl) (fun t u => by kernel_rfl) (fun t u h => rD_VolumesF_tr u.2.1 u.2.2.1 u.2.2.2.1 u.2.2.2.2.1 (h _ List.mem_cons_self) (h _ (List.mem_cons_of_mem _ List.mem_cons_self)) (h _ (List.mem_cons_of_mem _ (List.mem_cons_of_mem _ List.mem_cons_self))) (h _ (List.mem_cons_of_mem _ (List.mem_cons_of_mem _ (List.mem_cons_of_mem _ List.mem_cons_self)))) (h _ (List.mem_cons_of_mem _ (List.mem_cons_of_mem _ (List.mem_cons_of_mem _ (List.mem_cons_of_mem _ List.mem_cons_self))))))
noncomputable def rD_Volumes_fact : Fact Try.prog := factThin rD_Volumes_fact0 [.c (.ptr 0 0)] [.cells 106 [.vec 1, .vec 2, .vec 3, .vec 4], .vec false .zone, .vec false .vol, .vec false .snap, .vec false .done] (fun t u => .vec 5) (fun t u => (.cells 106 [.vec 1, .vec 2, .vec 3, .vec 4] :: oV (u.2.1) (u.2.2.1) (u.2.2.2.1) (u.2.2.2.2.1) [.vec false ⟨.vol, Z67 u.2.1 u.2.2.1 u.2.2.2.1 u.2.2.2.2.1⟩])) (fun t u => [u.2.1.length ≤ 1000, u.2.2.1.length ≤ 1000, u.2.2.2.1.length ≤ 1000, u.2.2.2.2.1.length ≤ 1000, ∀ v ∈ u.2.2.1, v.nodes.length ≤ 1000]) rfl [0, 1, 2, 3, 4] (by
 intro t u k hk
 simp only [List.mem_cons, List.not_mem_nil, or_false] at hk
 rcases hk with rfl | rfl | rfl | rfl | rfl
 all_goals exact ⟨by decide, rfl⟩)
noncomputable def E_rD_Snaps : Env := envOf (P := Try.prog) [] [] [] ckf true
def rD_SnapsF (b1 : List XZone) (b2 : List XVol) (b3 : List XSnap) (b4 : List XDone) : List XSnap :=
 ([] ++ b3)
def rD_SnapsR (b1 : List XZone) (b2 : List XVol) (b3 : List XSnap) (b4 : List XDone) : RT :=
 (.ask false
   .fail
   (.need [(([] : List XSnap).length + b3.length) * 32 ≤ bytesLim ∧ ([] : List XSnap).length + b3.length ≤ maxLen]
     (.leaf .ret ⟨slots 11 [(2, .vec 5)], (.cells 106 [.vec 1, .vec 2, .vec 3, .vec 4] :: oV b1 b2 b3 b4 [.vec false ⟨.snap, ([] ++ b3)⟩])⟩ [0, 1, 2, 3, 4, 7])))
theorem rD_SnapsF_tr (b1 : List XZone) (b2 : List XVol) (b3 : List XSnap) (b4 : List XDone) (hp0 : b1.length ≤ 1000) (hp1 : b2.length ≤ 1000) (hp2 : b3.length ≤ 1000) (hp3 : b4.length ≤ 1000) (hp4 : ∀ v ∈ b2, v.nodes.length ≤ 1000) : Tr Try.prog 5 (bodyOf Try.f64) (fnBegins Try.f64 [.ptr 0 0] (.cells 106 [.vec 1, .vec 2, .vec 3, .vec 4] :: oV b1 b2 b3 b4 [])) (fnEnds Try.prog Try.f64 (.vec 5) (.cells 106 [.vec 1, .vec 2, .vec 3, .vec 4] :: oV b1 b2 b3 b4 [.vec false ⟨.snap, rD_SnapsF b1 b2 b3 b4⟩])) := by
 refine Tr_tree (kok _ _ _ _ _ _) (E := E_rD_Snaps) (L := noLoops) 60 9999 Z10.none (rD_SnapsR b1 b2 b3 b4) (by kernel_rfl) (by kernel_rfl) (by kernel_rfl) ?_
 unfold rD_SnapsR
 refine ⟨fun h0 => ?_, fun h0 => ?_⟩
 · exact absurd h0 (by simp)
 · refine ⟨Z1 (by (try refine fun (_ : _ = _) => ?_); (try refine fun (_ : _ ∧ _) => ?_); unfold bytesLim maxLen; (try simp only [List.length_append, List.length_cons, List.length_nil]); omega) (Z7), ?_⟩
   have hF : rD_SnapsF b1 b2 b3 b4 = ([] ++ b3) := by first | exact rfl | simp only [rD_SnapsF, h0, cond_true, cond_false]
   exact ⟨trivial, .inl (by (try rw [hF]); kernel_rfl), by (try rw [hF]); kernel_rfl⟩
noncomputable def rD_Snaps_fact0 : Fact Try.prog := factOf 64 Try.f64 (by kernel_rfl) rfl (by kernel_rfl) [.c (.ptr 0 0)] [.cells 106 [.vec 1, .vec 2, .vec 3, .vec 4], .vec false .zone, .vec false .vol, .vec false .snap, .vec false .done] false (fun t u => .vec 5) (fun t u => (.cells 106 [.vec 1, .vec 2, .vec 3, .vec 4] :: oV (u.2.1) (u.2.2.1) (u.2.2.2.1) (u.2.2.2.2.1) [.vec false ⟨.snap, rD_SnapsF u.2.1 u.2.2.1 u.2.2.2.1 u.2.2.2.2.1⟩])) (fun t u => [u.2.1.length ≤ 1000, u.2.2.1.length ≤ 1000, u.2.2.2.1.length ≤ 1000, u.2.2.2.2.1.length ≤ 1000, ∀ v ∈ u.2.2.1, v.nodes.length ≤ 1000])
 (nofun) (fun t u => by kernel_rfl) (fun t u => by kernel_rfl) (fun t u h => rD_SnapsF_tr u.2.1 u.2.2.1 u.2.2.2.1 u.2.2.2.2.1 (h _ List.mem_cons_self) (h _ (List.mem_cons_of_mem _ List.mem_cons_self)) (h _ (List.mem_cons_of_mem _ (List.mem_cons_of_mem _ List.mem_cons_self))) (h _ (List.mem_cons_of_mem _ (List.mem_cons_of_mem _ (List.mem_cons_of_mem _ List.mem_cons_self)))) (h _ (List.mem_cons_of_mem _ (List.mem_cons_of_mem _ (List.mem_cons_of_mem _ (List.mem_cons_of_mem _ List.mem_cons_self))))))
noncomputable def rD_Snaps_fact : Fact Try.prog := factThin rD_Snaps_fact0 [.c (.ptr 0 0)] [.cells 106 [.vec 1, .vec 2, .vec 3, .vec 4], .vec false .zone, .vec false .vol, .vec false .snap, .vec false .done] (fun t u => .vec 5) (fun t u => (.cells 106 [.vec 1, .vec 2, .vec 3, .vec 4] :: oV (u.2.1) (u.2.2.1) (u.2.2.2.1) (u.2.2.2.2.1) [.vec false ⟨.snap, rD_SnapsF u.2.1 u.2.2.1 u.2.2.2.1 u.2.2.2.2.1⟩])) (fun t u => [u.2.1.length ≤ 1000, u.2.2.1.length ≤ 1000, u.2.2.2.1.length ≤ 1000, u.2.2.2.2.1.length ≤ 1000, ∀ v ∈ u.2.2.1, v.nodes.length ≤ 1000]) rfl [0, 1, 2, 3, 4] (by
 intro t u k hk
 simp only [List.mem_cons, List.not_mem_nil, or_false] at hk
 rcases hk with rfl | rfl | rfl | rfl | rfl
 all_goals exact ⟨by decide, rfl⟩)
noncomputable def E_rD_Fork : Env := envOf (P := Try.prog) [rD_Volumes_fact, rD_Snaps_fact] [] [] ckf true
def Z1f (b1 : List XZone) (b2 : List XVol) (b3 : List XSnap) (b4 : List XDone) : List XZone × List XVol × List XSnap × List XDone :=
 (([] ++ b1), Z67 b1 b2 b3 b4, rD_SnapsF b1 b2 b3 b4, ([] ++ b4))
def rD_ForkR (b1 : List XZone) (b2 : List XVol) (b3 : List XSnap) (b4 : List XDone) : RT :=
 (.ask false
   .fail
   (.need [(([] : List XZone).length + b1.length) * 24 ≤ bytesLim ∧ ([] : List XZone).length + b1.length ≤ maxLen, b1.length ≤ 1000, b2.length ≤ 1000, b3.length ≤ 1000, b4.length ≤ 1000, ∀ v ∈ b2, v.nodes.length ≤ 1000, b1.length ≤ 1000, b2.length ≤ 1000, b3.length ≤ 1000, b4.length ≤ 1000, ∀ v ∈ b2, v.nodes.length ≤ 1000, (([] : List XDone).length + b4.length) * 128 ≤ bytesLim ∧ ([] : List XDone).length + b4.length ≤ maxLen]
     (.leaf .ret ⟨slots 23 [(2, .ptr 5 0)], (.cells 106 [.vec 1, .vec 2, .vec 3, .vec 4] :: oV b1 b2 b3 b4 (.cells 106 [.vec 6, .vec 7, .vec 8, .vec 9] :: oV ([] ++ b1) (Z67 b1 b2 b3 b4) (rD_SnapsF b1 b2 b3 b4) ([] ++ b4) []))⟩ [0, 1, 2, 3, 4, 11, 6, 7, 8, 10])))
theorem rD_ForkF_tr (b1 : List XZone) (b2 : List XVol) (b3 : List XSnap) (b4 : List XDone) (hp0 : b1.length ≤ 1000) (hp1 : b2.length ≤ 1000) (hp2 : b3.length ≤ 1000) (hp3 : b4.length ≤ 1000) (hp4 : ∀ v ∈ b2, v.nodes.length ≤ 1000) : Tr Try.prog 5 (bodyOf Try.f36) (fnBegins Try.f36 [.ptr 0 0] (.cells 106 [.vec 1, .vec 2, .vec 3, .vec 4] :: oV b1 b2 b3 b4 [])) (fnEnds Try.prog Try.f36 (.ptr 5 0) (.cells 106 [.vec 1, .vec 2, .vec 3, .vec 4] :: oV b1 b2 b3 b4 (.cells 106 [.vec 6, .vec 7, .vec 8, .vec 9] :: oV ((Z1f b1 b2 b3 b4).1) ((Z1f b1 b2 b3 b4).2.1) ((Z1f b1 b2 b3 b4).2.2.1) ((Z1f b1 b2 b3 b4).2.2.2) []))) := by
 refine Tr_tree (kok _ _ _ _ _ _) (E := E_rD_Fork) (L := noLoops) 60 9999 Z10.none (rD_ForkR b1 b2 b3 b4) (by kernel_rfl) (by kernel_rfl) (by kernel_rfl) ?_
 unfold rD_ForkR
 refine ⟨fun h0 => ?_, fun h0 => ?_⟩
 · exact absurd h0 (by simp)
 · refine ⟨(by refine Z1 (by (try refine fun (_ : _ = _) => ?_); (try refine fun (_ : _ ∧ _) => ?_); unfold bytesLim maxLen; (try simp only [List.length_append, List.length_cons, List.length_nil]); omega) ?_; (iterate 4 refine Z1 (by first | assumption | omega | ((try intro _); (try simp only [decide_eq_true_eq, decide_eq_false_iff_not, Bool.cond_false_right, Bool.cond_true_right, Bool.cond_true_left, Bool.cond_false_left, Bool.and_eq_true, Bool.or_eq_true, Bool.not_eq_true', bytesLim, maxLen, List.length_cons, List.length_nil, List.length_append, byteSize_lit] at *); omega)) ?_); refine Z1 (by assumption) ?_; (iterate 4 refine Z1 (by first | assumption | omega | ((try intro _); (try simp only [decide_eq_true_eq, decide_eq_false_iff_not, Bool.cond_false_right, Bool.cond_true_right, Bool.cond_true_left, Bool.cond_false_left, Bool.and_eq_true, Bool.or_eq_true, Bool.not_eq_true', bytesLim, maxLen, List.length_cons, List.length_nil, List.length_append, byteSize_lit] at *); omega)) ?_); refine Z1 (by assumption) ?_; refine Z1 (by (try refine fun (_ : _ = _) => ?_); (try refine fun (_ : _ ∧ _) => ?_); unfold bytesLim maxLen; (try simp only [List.length_append, List.length_cons, List.length_nil]); omega) ?_; exact Z7), ?_⟩
   have hF : Z1f b1 b2 b3 b4 = (([] ++ b1), Z67 b1 b2 b3 b4, rD_SnapsF b1 b2 b3 b4, ([] ++ b4)) := by first | exact rfl | simp only [Z1f, h0, cond_true, cond_false]
   exact ⟨trivial, .inl (by (try rw [hF]); kernel_rfl), by (try rw [hF]); kernel_rfl⟩
noncomputable def rD_Fork_fact0 : Fact Try.prog := factOf 36 Try.f36 (by kernel_rfl) rfl (by kernel_rfl) [.c (.ptr 0 0)] [.cells 106 [.vec 1, .vec 2, .vec 3, .vec 4], .vec false .zone, .vec false .vol, .vec false .snap, .vec false .done] false (fun t u => .ptr 5 0) (fun t u => (.cells 106 [.vec 1, .vec 2, .vec 3, .vec 4] :: oV (u.2.1) (u.2.2.1) (u.2.2.2.1) (u.2.2.2.2.1) (.cells 106 [.vec 6, .vec 7, .vec 8, .vec 9] :: oV ((Z1f u.2.1 u.2.2.1 u.2.2.2.1 u.2.2.2.2.1).1) ((Z1f u.2.1 u.2.2.1 u.2.2.2.1 u.2.2.2.2.1).2.1) ((Z1f u.2.1 u.2.2.1 u.2.2.2.1 u.2.2.2.2.1).2.2.1) ((Z1f u.2.1 u.2.2.1 u.2.2.2.1 u.2.2.2.2.1).2.2.2) []))) (fun t u => [u.2.1.length ≤ 1000, u.2.2.1.length ≤ 1000, u.2.2.2.1.length ≤ 1000, u.2.2.2.2.1.length ≤ 1000, ∀ v ∈ u.2.2.1, v.nodes.length ≤ 1000])
 (nofun) (fun t u => by kernel_rfl) (fun t u => by kernel_rfl) (fun t u h => rD_ForkF_tr u.2.1 u.2.2.1 u.2.2.2.1 u.2.2.2.2.1 (h _ List.mem_cons_self) (h _ (List.mem_cons_of_mem _ List.mem_cons_self)) (h _ (List.mem_cons_of_mem _ (List.mem_cons_of_mem _ List.mem_cons_self))) (h _ (List.mem_cons_of_mem _ (List.mem_cons_of_mem _ (List.mem_cons_of_mem _ List.mem_cons_self)))) (h _ (List.mem_cons_of_mem _ (List.mem_cons_of_mem _ (List.mem_cons_of_mem _ (List.mem_cons_of_mem _ List.mem_cons_self))))))
noncomputable def rD_Fork_fact : Fact Try.prog := factThin rD_Fork_fact0 [.c (.ptr 0 0)] [.cells 106 [.vec 1, .vec 2, .vec 3, .vec 4], .vec false .zone, .vec false .vol, .vec false .snap, .vec false .done] (fun t u => .ptr 5 0) (fun t u => (.cells 106 [.vec 1, .vec 2, .vec 3, .vec 4] :: oV (u.2.1) (u.2.2.1) (u.2.2.2.1) (u.2.2.2.2.1) (.cells 106 [.vec 6, .vec 7, .vec 8, .vec 9] :: oV ((Z1f u.2.1 u.2.2.1 u.2.2.2.1 u.2.2.2.2.1).1) ((Z1f u.2.1 u.2.2.1 u.2.2.2.1 u.2.2.2.2.1).2.1) ((Z1f u.2.1 u.2.2.1 u.2.2.2.1 u.2.2.2.2.1).2.2.1) ((Z1f u.2.1 u.2.2.1 u.2.2.2.1 u.2.2.2.2.1).2.2.2) []))) (fun t u => [u.2.1.length ≤ 1000, u.2.2.1.length ≤ 1000, u.2.2.2.1.length ≤ 1000, u.2.2.2.2.1.length ≤ 1000, ∀ v ∈ u.2.2.1, v.nodes.length ≤ 1000]) rfl [0, 1, 2, 3, 4] (by
 intro t u k hk
 simp only [List.mem_cons, List.not_mem_nil, or_false] at hk
 rcases hk with rfl | rfl | rfl | rfl | rfl
 all_goals exact ⟨by decide, rfl⟩)
noncomputable def E_r10_SameVolumes : Env := envOf (P := Try.prog) [] [] [] ckf
def Z29 (a1 : List XVol) (i : Nat) : List ByteArray → Nat → Bool
 | [], i1 => false
 | o1 :: r, i1 => cond (!(decide (o1 = (((a1.getD i default).nodes).getD i1 default))))
  true
  (Z29 a1 i r (i1 + 1))
def Z53 (a0 : List XVol) (a1 : List XVol) (i : Nat) (i1 : Nat) : St :=
 ⟨slots 81 [(0, .coll ⟨.vol, a0⟩), (1, .coll ⟨.vol, a1⟩), (5, .int .i64 (i : Int)), (6, .ptr 0 0), (7, .ptr 1 0), (8, .int .i64 (i1 : Int))], [.cells 45 [.str ((a0.getD i default).name), .int .i64 ((a0.getD i default).size), .str ((a0.getD i default).zone), .int .u64 ((a0.getD i default).tag), .coll ⟨.str, (a0.getD i default).nodes⟩], .cells 45 [.str ((a1.getD i default).name), .int .i64 ((a1.getD i default).size), .str ((a1.getD i default).zone), .int .u64 ((a1.getD i default).tag), .coll ⟨.str, (a1.getD i default).nodes⟩]]⟩
def r10_SameVolumesL1R (a0 : List XVol) (a1 : List XVol) (i : Nat) (i1 : Nat) : RT :=
 (.ask (decide ((i1 : Int) < (((a0.getD i default).nodes).length : Int)))
   (.need [0 ≤ (i1 : Int) ∧ (i1 : Int) < (((a0.getD i default).nodes).length : Int), 0 ≤ (i1 : Int) ∧ (i1 : Int) < (((a1.getD i default).nodes).length : Int)]
     (.ask (!(decide ((((a0.getD i default).nodes).getD i1 default) = (((a1.getD i default).nodes).getD i1 default))))
       (.leaf .ret ⟨slots 81 [(4, .bool false)], []⟩ [])
       (.leaf .normal ⟨slots 81 [(0, .coll ⟨.vol, a0⟩), (1, .coll ⟨.vol, a1⟩), (5, .int .i64 (i : Int)), (6, .ptr 0 0), (7, .ptr 1 0), (8, .int .i64 (IntKind.i64.wrap ((i1 : Int) + (1 : Int))))], [.cells 45 [.str ((a0.getD i default).name), .int .i64 ((a0.getD i default).size), .str ((a0.getD i default).zone), .int .u64 ((a0.getD i default).tag), .coll ⟨.str, (a0.getD i default).nodes⟩], .cells 45 [.str ((a1.getD i default).name), .int .i64 ((a1.getD i default).size), .str ((a1.getD i default).zone), .int .u64 ((a1.getD i default).tag), .coll ⟨.str, (a1.getD i default).nodes⟩]]⟩ [])))
   (.leaf (.exit 2) ⟨slots 81 [(0, .coll ⟨.vol, a0⟩), (1, .coll ⟨.vol, a1⟩), (5, .int .i64 (i : Int))], []⟩ []))
def Z40 (a0 : List XVol) (a1 : List XVol) (i : Nat) (i1 : Nat) : Tree :=
 .ask (Z29 a1 i (((a0.getD i default).nodes).drop i1) i1) (.leaf .ret ⟨slots 81 [(4, .bool false)], []⟩) (.leaf (.exit 2) ⟨slots 81 [(0, .coll ⟨.vol, a0⟩), (1, .coll ⟨.vol, a1⟩), (5, .int .i64 (i : Int))], []⟩)
theorem r10_SameVolumesL1_loop (a0 : List XVol) (a1 : List XVol) (i : Nat) (hp0 : a0.length ≤ 1000) (hp1 : ∀ v ∈ a0, v.nodes.length ≤ 1000) (hlen : ((a0.getD i default).nodes).length < 4611686018427387904) (hn0 : ((a0.getD i default).nodes).length = ((a1.getD i default).nodes).length) (hn1 : 0 ≤ (i : Int) ∧ (i : Int) < (a0.length : Int)) (z : { z : Nat // z ≤ ((a0.getD i default).nodes).length }) (Q : Exit → St → Prop) (h : (Z40 a0 a1 i z.1).All Q) : Tr Try.prog 0 (.loop (loopSub (loopAt Try.f61 0) 0 0)) (Z53 a0 a1 i z.1) Q := by
 refine Tr_loopT (kok _ _ _ _ _ _) (E := E_r10_SameVolumes) (ι := { z : Nat // z ≤ ((a0.getD i default).nodes).length }) 60 2 (fun _ => noLoops) (fun z => Z53 a0 a1 i z.1) (fun z => Z40 a0 a1 i z.1) (fun z => r10_SameVolumesL1R a0 a1 i z.1) (fun z => ((a0.getD i default).nodes).length - z.1) (fun _ => Z10.none) (fun z => by obtain ⟨i1, hi⟩ := z; kernel_rfl) (fun z => by obtain ⟨i1, hi⟩ := z; kernel_rfl) (fun z => by obtain ⟨i1, hi⟩ := z; kernel_rfl) ?_ z Q h
 rintro ⟨i1, hi⟩ Q hT
 replace hT : (Z40 a0 a1 i i1).All Q := hT
 replace hi : i1 ≤ ((a0.getD i default).nodes).length := hi
 show (r10_SameVolumesL1R a0 a1 i i1).All _
 unfold r10_SameVolumesL1R
 refine ⟨fun h0 => ?_, fun h0 => ?_⟩
 · have hlt : i1 < ((a0.getD i default).nodes).length := by simpa using h0
   have hd := drop_getD hlt
   have hw := wrap_succ (i := i1) (by omega)
   refine ⟨(by (iterate 2 refine Z1 (by first | assumption | omega | ((try intro _); (try simp only [decide_eq_true_eq, decide_eq_false_iff_not, Bool.cond_false_right, Bool.cond_true_right, Bool.cond_true_left, Bool.cond_false_left, Bool.and_eq_true, Bool.or_eq_true, Bool.not_eq_true', bytesLim, maxLen, List.length_cons, List.length_nil, List.length_append, byteSize_lit] at *); omega)) ?_); exact Z7), ?_⟩
   refine ⟨fun h1 => ?_, fun h1 => ?_⟩
   · have hF : Z29 a1 i (((a0.getD i default).nodes).drop i1) i1 = true := by rw [hd]; first | exact (Zd h1 rfl) | simp only [Z29, h0, h1, cond_true, cond_false]
     unfold Z40 at hT
     rw [hF] at hT
     exact hT.1 rfl
   · have hF : Z29 a1 i (((a0.getD i default).nodes).drop i1) i1 = Z29 a1 i (((a0.getD i default).nodes).drop (i1 + 1)) (i1 + 1) := by rw [hd]; first | exact (Z4 h1 rfl) | simp only [Z29, h0, h1, cond_true, cond_false]
     refine ⟨⟨(i1 + 1), by show (i1 + 1) ≤ ((a0.getD i default).nodes).length; omega⟩, by show ((a0.getD i default).nodes).length - (i1 + 1) < ((a0.getD i default).nodes).length - i1; omega, ?_, ?_⟩
     · show _ = Z53 a0 a1 i (i1 + 1)
       unfold Z53
       simp only [hw]
     · show (Z40 a0 a1 i (i1 + 1)).All Q
       unfold Z40 at hT ⊢
       rw [hF] at hT
       exact hT
 · have hge : ¬ i1 < ((a0.getD i default).nodes).length := by simpa using h0
   have hd : ((a0.getD i default).nodes).drop i1 = [] := List.drop_eq_nil_of_le (by omega)
   have hF : Z29 a1 i (((a0.getD i default).nodes).drop i1) i1 = false := by rw [hd]; first | exact rfl | simp only [Z29, h0, cond_true, cond_false]
   unfold Z40 at hT
   rw [hF] at hT
   exact hT.2 rfl
def Z26 (a1 : List XVol) : List XVol → Nat → Bool
 | [], i => false
 | o :: r, i => cond (cond (cond (cond (cond (!(decide ((o.name) = ((a1.getD i default).name)))) true (!((o.size) == ((a1.getD i default).size)))) true (!(decide ((o.zone) = ((a1.getD i default).zone))))) true (!((o.tag) == ((a1.getD i default).tag)))) true (!(((o.nodes).length : Int) == (((a1.getD i default).nodes).length : Int))))
  true
  (cond (Z29 a1 i (o.nodes) 0)
    true
    (Z26 a1 r (i + 1)))
def Z5b (a0 : List XVol) (a1 : List XVol) (i : Nat) : St :=
 ⟨slots 81 [(0, .coll ⟨.vol, a0⟩), (1, .coll ⟨.vol, a1⟩), (5, .int .i64 (i : Int))], []⟩
def r10_SameVolumesLR (a0 : List XVol) (a1 : List XVol) (i : Nat) : RT :=
 (.ask (decide ((i : Int) < (a0.length : Int)))
   (.need [0 ≤ (i : Int) ∧ (i : Int) < (a0.length : Int), 0 ≤ (i : Int) ∧ (i : Int) < (a1.length : Int)]
     (.ask (cond (cond (cond (cond (!(decide (((a0.getD i default).name) = ((a1.getD i default).name)))) true (!(((a0.getD i default).size) == ((a1.getD i default).size)))) true (!(decide (((a0.getD i default).zone) = ((a1.getD i default).zone))))) true (!(((a0.getD i default).tag) == ((a1.getD i default).tag)))) true (!((((a0.getD i default).nodes).length : Int) == (((a1.getD i default).nodes).length : Int))))
       (.leaf .ret ⟨slots 81 [(4, .bool false)], []⟩ [])
       (.need [((a0.getD i default).nodes).length = ((a1.getD i default).nodes).length, 0 ≤ (i : Int) ∧ (i : Int) < (a0.length : Int), ((a0.getD i default).nodes).length < 4611686018427387904]
         (.ask (Z29 a1 i ((a0.getD i default).nodes) 0)
           (.leaf .ret ⟨slots 81 [(4, .bool false)], []⟩ [])
           (.leaf .normal ⟨slots 81 [(0, .coll ⟨.vol, a0⟩), (1, .coll ⟨.vol, a1⟩), (5, .int .i64 (IntKind.i64.wrap ((i : Int) + (1 : Int))))], []⟩ [])))))
   (.leaf (.exit 0) ⟨slots 81 [], []⟩ []))
def Z3e (a0 : List XVol) (a1 : List XVol) (i : Nat) : Tree :=
 .ask (Z26 a1 (a0.drop i) i) (.leaf .ret ⟨slots 81 [(4, .bool false)], []⟩) (.leaf (.exit 0) ⟨slots 81 [], []⟩)
theorem r10_SameVolumesL_loop (a0 : List XVol) (a1 : List XVol) (hp0 : a0.length ≤ 1000) (hp1 : ∀ v ∈ a0, v.nodes.length ≤ 1000) (hlen : a0.length < 4611686018427387904) (hn0 : a0.length = a1.length) (z : { z : Nat // z ≤ a0.length }) (Q : Exit → St → Prop) (h : (Z3e a0 a1 z.1).All Q) : Tr Try.prog 0 (.loop (loopAt Try.f61 0)) (Z5b a0 a1 z.1) Q := by
 refine Tr_loopT (kok _ _ _ _ _ _) (E := E_r10_SameVolumes) (ι := { z : Nat // z ≤ a0.length }) 60 0 (fun z => loopsOf [(2, Z53 a0 a1 z.1 0, [], .need [((a0.getD z.1 default).nodes).length = ((a1.getD z.1 default).nodes).length, 0 ≤ (z.1 : Int) ∧ (z.1 : Int) < (a0.length : Int), ((a0.getD z.1 default).nodes).length < 4611686018427387904] (Z40 a0 a1 z.1 0))]) (fun z => Z5b a0 a1 z.1) (fun z => Z3e a0 a1 z.1) (fun z => r10_SameVolumesLR a0 a1 z.1) (fun z => a0.length - z.1) (fun z => by obtain ⟨i, hi⟩ := z; exact Z10.one (g := loopSub (loopAt Try.f61 0) 0 0) (b := 2) (by kernel_rfl) (by kernel_rfl) (by kernel_rfl) (by kernel_rfl) (fun Q h => r10_SameVolumesL1_loop a0 a1 i hp0 hp1 (h.1 _ (List.mem_cons_of_mem _ (List.mem_cons_of_mem _ List.mem_cons_self))) (h.1 _ List.mem_cons_self) (h.1 _ (List.mem_cons_of_mem _ List.mem_cons_self)) ⟨0, by first | exact Nat.zero_le _ | (show 0 ≤ ((a0.getD i default).nodes).length; omega) | (show 0 ≤ ((a0.getD i default).nodes).length; exact ⟨Nat.zero_le _, by assumption⟩) | (show 0 ≤ ((a0.getD i default).nodes).length; simp)⟩ Q h.2)) (fun z => by obtain ⟨i, hi⟩ := z; kernel_rfl) (fun z => by obtain ⟨i, hi⟩ := z; kernel_rfl) (fun z => by obtain ⟨i, hi⟩ := z; kernel_rfl) ?_ z Q h
 rintro ⟨i, hi⟩ Q hT
 replace hT : (Z3e a0 a1 i).All Q := hT
 replace hi : i ≤ a0.length := hi
 show (r10_SameVolumesLR a0 a1 i).All _
 unfold r10_SameVolumesLR
 refine ⟨fun h0 => ?_, fun h0 => ?_⟩
 · have hlt : i < a0.length := by simpa using h0
   have hd := drop_getD hlt
   have hw := wrap_succ (i := i) (by omega)
   refine ⟨(by (iterate 2 refine Z1 (by first | assumption | omega | ((try intro _); (try simp only [decide_eq_true_eq, decide_eq_false_iff_not, Bool.cond_false_right, Bool.cond_true_right, Bool.cond_true_left, Bool.cond_false_left, Bool.and_eq_true, Bool.or_eq_true, Bool.not_eq_true', bytesLim, maxLen, List.length_cons, List.length_nil, List.length_append, byteSize_lit] at *); omega)) ?_); exact Z7), ?_⟩
   refine ⟨fun h1 => ?_, fun h1 => ?_⟩
   · have hF : Z26 a1 (a0.drop i) i = true := by rw [hd]; first | exact (Zd h1 rfl) | simp only [Z26, h0, h1, cond_true, cond_false]
     unfold Z3e at hT
     rw [hF] at hT
     exact hT.1 rfl
   · refine ⟨Z1 (by have h9 := h1; simp only [cond_true, cond_false, Bool.cond_true_left, Bool.or_eq_false_iff, Bool.not_eq_false', decide_eq_true_eq, beq_iff_eq] at h9; omega) (Z1 (by first | assumption | omega | ((try intro _); (try simp only [decide_eq_true_eq, decide_eq_false_iff_not, Bool.cond_false_right, Bool.cond_true_right, Bool.cond_true_left, Bool.cond_false_left, Bool.and_eq_true, Bool.or_eq_true, Bool.not_eq_true', bytesLim, maxLen, List.length_cons, List.length_nil, List.length_append, byteSize_lit] at *); omega)) (Z1 (by have h8 := hp1 _ (gD_mem (l := a0) (i := i) (by omega)); omega) (Z7))), ?_⟩
     refine ⟨fun h2 => ?_, fun h2 => ?_⟩
     · have hF : Z26 a1 (a0.drop i) i = true := by rw [hd]; first | exact (Z4 h1 (Zd h2 rfl)) | simp only [Z26, h0, h1, h2, cond_true, cond_false]
       unfold Z3e at hT
       rw [hF] at hT
       exact hT.1 rfl
     · have hF : Z26 a1 (a0.drop i) i = Z26 a1 (a0.drop (i + 1)) (i + 1) := by rw [hd]; first | exact (Z4 h1 (Z4 h2 rfl)) | simp only [Z26, h0, h1, h2, cond_true, cond_false]
       refine ⟨⟨(i + 1), by show (i + 1) ≤ a0.length; omega⟩, by show a0.length - (i + 1) < a0.length - i; omega, ?_, ?_⟩
       · show _ = Z5b a0 a1 (i + 1)
         unfold Z5b
         simp only [hw]
       · show (Z3e a0 a1 (i + 1)).All Q
         unfold Z3e at hT ⊢
         rw [hF] at hT
         exact hT
 · have hge : ¬ i < a0.length := by simpa using h0
   have hd : a0.drop i = [] := List.drop_eq_nil_of_le (by omega)
   have hF : Z26 a1 (a0.drop i) i = false := by rw [hd]; first | exact rfl | simp only [Z26, h0, cond_true, cond_false]
   unfold Z3e at hT
   rw [hF] at hT
   exact hT.2 rfl
def Z1e (a0 : List XVol) (a1 : List XVol) : Bool :=
 cond (!((a0.length : Int) == (a1.length : Int)))
  false
  (cond (Z26 a1 a0 0)
    false
    true)
def r10_SameVolumesR (a0 : List XVol) (a1 : List XVol) : RT :=
 (.ask (!((a0.length : Int) == (a1.length : Int)))
   (.leaf .ret ⟨slots 81 [(4, .bool false)], []⟩ [])
   (.need [a0.length = a1.length]
     (.ask (Z26 a1 a0 0)
       (.leaf .ret ⟨slots 81 [(4, .bool false)], []⟩ [])
       (.leaf .ret ⟨slots 81 [(4, .bool true)], []⟩ []))))
theorem r10_SameVolumesF_tr (a0 : List XVol) (a1 : List XVol) (hp0 : a0.length ≤ 1000) (hp1 : ∀ v ∈ a0, v.nodes.length ≤ 1000) : Tr Try.prog 0 (bodyOf Try.f61) (fnBegins Try.f61 [.coll ⟨.vol, a0⟩, .coll ⟨.vol, a1⟩] []) (fnEnds Try.prog Try.f61 (.bool (Z1e a0 a1)) []) := by
 refine Tr_tree (kok _ _ _ _ _ _) (E := E_r10_SameVolumes) (L := (loopsOf [(0, Z5b a0 a1 0, [], .need [a0.length = a1.length] (Z3e a0 a1 0))])) 60 9999 (Z10.one (g := loopAt Try.f61 0) (b := 0) (by kernel_rfl) (by kernel_rfl) (by kernel_rfl) (by kernel_rfl) (fun Q h => r10_SameVolumesL_loop a0 a1 hp0 hp1 (by omega) (h.1 _ List.mem_cons_self) ⟨0, by first | exact Nat.zero_le _ | (show 0 ≤ a0.length; omega) | (show 0 ≤ a0.length; exact ⟨Nat.zero_le _, by assumption⟩) | (show 0 ≤ a0.length; simp)⟩ Q h.2)) (r10_SameVolumesR a0 a1) (by kernel_rfl) (by kernel_rfl) (by kernel_rfl) ?_
 unfold r10_SameVolumesR
 refine ⟨fun h0 => ?_, fun h0 => ?_⟩
 · have hF : Z1e a0 a1 = false := by first | exact (Zd h0 rfl) | simp only [Z1e, h0, cond_true, cond_false]
   exact ⟨trivial, .inl (by (try rw [hF]); kernel_rfl), by (try rw [hF]); kernel_rfl⟩
 · refine ⟨Z1 (by have h9 := h0; simp only [Bool.not_eq_false', decide_eq_true_eq, beq_iff_eq] at h9; omega) (Z7), ?_⟩
   refine ⟨fun h1 => ?_, fun h1 => ?_⟩
   · have hF : Z1e a0 a1 = false := by first | exact (Z4 h0 (Zd h1 rfl)) | simp only [Z1e, h0, h1, cond_true, cond_false]
     exact ⟨trivial, .inl (by (try rw [hF]); kernel_rfl), by (try rw [hF]); kernel_rfl⟩
   · have hF : Z1e a0 a1 = true := by first | exact (Z4 h0 (Z4 h1 rfl)) | simp only [Z1e, h0, h1, cond_true, cond_false]
     exact ⟨trivial, .inl (by (try rw [hF]); kernel_rfl), by (try rw [hF]); kernel_rfl⟩
noncomputable def r10_SameVolumes_fact : Fact Try.prog := factOf 61 Try.f61 (by kernel_rfl) rfl (by kernel_rfl) [.c (.coll .vol), .c (.coll .vol)] [] true (fun t u => .bool (Z1e t.1 t.2.1)) (fun t u => []) (fun t u => [t.1.length ≤ 1000, ∀ v ∈ t.1, v.nodes.length ≤ 1000])
 (fun _ _ _ => rfl) (fun t u => by kernel_rfl) (fun t u => by kernel_rfl) (fun t u h => r10_SameVolumesF_tr t.1 t.2.1 (h _ List.mem_cons_self) (h _ (List.mem_cons_of_mem _ List.mem_cons_self)))
noncomputable def E_r10_SameSnaps : Env := envOf (P := Try.prog) [] [] [] ckf
def Z33 (a1 : List XSnap) : List XSnap → Nat → Bool
 | [], i => false
 | o :: r, i => cond (!((decide ((o.name) = ((a1.getD i default).name))) && (((o.size) == ((a1.getD i default).size)) && ((o.tag) == ((a1.getD i default).tag)))))
  true
  (Z33 a1 r (i + 1))
def Z68 (a0 : List XSnap) (a1 : List XSnap) (i : Nat) : St :=
 ⟨slots 26 [(0, .coll ⟨.snap, a0⟩), (1, .coll ⟨.snap, a1⟩), (5, .int .i64 (i : Int))], []⟩
def r10_SameSnapsLR (a0 : List XSnap) (a1 : List XSnap) (i : Nat) : RT :=
 (.ask (decide ((i : Int) < (a0.length : Int)))
   (.need [0 ≤ (i : Int) ∧ (i : Int) < (a0.length : Int), 0 ≤ (i : Int) ∧ (i : Int) < (a1.length : Int)]
     (.ask (!((decide (((a0.getD i default).name) = ((a1.getD i default).name))) && ((((a0.getD i default).size) == ((a1.getD i default).size)) && (((a0.getD i default).tag) == ((a1.getD i default).tag)))))
       (.leaf .ret ⟨slots 26 [(4, .bool false)], []⟩ [])
       (.leaf .normal ⟨slots 26 [(0, .coll ⟨.snap, a0⟩), (1, .coll ⟨.snap, a1⟩), (5, .int .i64 (IntKind.i64.wrap ((i : Int) + (1 : Int))))], []⟩ [])))
   (.leaf (.exit 0) ⟨slots 26 [], []⟩ []))
def Z4a (a0 : List XSnap) (a1 : List XSnap) (i : Nat) : Tree :=
 .ask (Z33 a1 (a0.drop i) i) (.leaf .ret ⟨slots 26 [(4, .bool false)], []⟩) (.leaf (.exit 0) ⟨slots 26 [], []⟩)
theorem r10_SameSnapsL_loop (a0 : List XSnap) (a1 : List XSnap) (hp0 : a0.length ≤ 1000) (hlen : a0.length < 4611686018427387904) (hn0 : a0.length = a1.length) (z : { z : Nat // z ≤ a0.length }) (Q : Exit → St → Prop) (h : (Z4a a0 a1 z.1).All Q) : Tr Try.prog 0 (.loop (loopAt Try.f63 0)) (Z68 a0 a1 z.1) Q := by
 refine Tr_loopT (kok _ _ _ _ _ _) (E := E_r10_SameSnaps) (ι := { z : Nat // z ≤ a0.length }) 60 0 (fun _ => noLoops) (fun z => Z68 a0 a1 z.1) (fun z => Z4a a0 a1 z.1) (fun z => r10_SameSnapsLR a0 a1 z.1) (fun z => a0.length - z.1) (fun _ => Z10.none) (fun z => by obtain ⟨i, hi⟩ := z; kernel_rfl) (fun z => by obtain ⟨i, hi⟩ := z; kernel_rfl) (fun z => by obtain ⟨i, hi⟩ := z; kernel_rfl) ?_ z Q h
 rintro ⟨i, hi⟩ Q hT
 replace hT : (Z4a a0 a1 i).All Q := hT
 replace hi : i ≤ a0.length := hi
 show (r10_SameSnapsLR a0 a1 i).All _
 unfold r10_SameSnapsLR
 refine ⟨fun h0 => ?_, fun h0 => ?_⟩
 · have hlt : i < a0.length := by simpa using h0
   have hd := drop_getD hlt
   have hw := wrap_succ (i := i) (by omega)
   refine ⟨(by (iterate 2 refine Z1 (by first | assumption | omega | ((try intro _); (try simp only [decide_eq_true_eq, decide_eq_false_iff_not, Bool.cond_false_right, Bool.cond_true_right, Bool.cond_true_left, Bool.cond_false_left, Bool.and_eq_true, Bool.or_eq_true, Bool.not_eq_true', bytesLim, maxLen, List.length_cons, List.length_nil, List.length_append, byteSize_lit] at *); omega)) ?_); exact Z7), ?_⟩
   refine ⟨fun h1 => ?_, fun h1 => ?_⟩
   · have hF : Z33 a1 (a0.drop i) i = true := by rw [hd]; first | exact (Zd h1 rfl) | simp only [Z33, h0, h1, cond_true, cond_false]
     unfold Z4a at hT
     rw [hF] at hT
     exact hT.1 rfl
   · have hF : Z33 a1 (a0.drop i) i = Z33 a1 (a0.drop (i + 1)) (i + 1) := by rw [hd]; first | exact (Z4 h1 rfl) | simp only [Z33, h0, h1, cond_true, cond_false]
     refine ⟨⟨(i + 1), by show (i + 1) ≤ a0.length; omega⟩, by show a0.length - (i + 1) < a0.length - i; omega, ?_, ?_⟩
     · show _ = Z68 a0 a1 (i + 1)
       unfold Z68
       simp only [hw]
     · show (Z4a a0 a1 (i + 1)).All Q
       unfold Z4a at hT ⊢
       rw [hF] at hT
       exact hT
 · have hge : ¬ i < a0.length := by simpa using h0
   have hd : a0.drop i = [] := List.drop_eq_nil_of_le (by omega)
   have hF : Z33 a1 (a0.drop i) i = false := by rw [hd]; first | exact rfl | simp only [Z33, h0, cond_true, cond_false]
   unfold Z4a at hT
   rw [hF] at hT
   exact hT.2 rfl
def Z34 (a0 : List XSnap) (a1 : List XSnap) : Bool :=
 cond (!((a0.length : Int) == (a1.length : Int)))
  false
  (cond (Z33 a1 a0 0)
    false
    true)
def r10_SameSnapsR (a0 : List XSnap) (a1 : List XSnap) : RT :=
 (.ask (!((a0.length : Int) == (a1.length : Int)))
   (.leaf .ret ⟨slots 26 [(4, .bool false)], []⟩ [])
   (.need [a0.length = a1.length]
     (.ask (Z33 a1 a0 0)
       (.leaf .ret ⟨slots 26 [(4, .bool false)], []⟩ [])
       (.leaf .ret ⟨slots 26 [(4, .bool true)], []⟩ []))))
theorem r10_SameSnapsF_tr (a0 : List XSnap) (a1 : List XSnap) (hp0 : a0.length ≤ 1000) : Tr Try.prog 0 (bodyOf Try.f63) (fnBegins Try.f63 [.coll ⟨.snap, a0⟩, .coll ⟨.snap, a1⟩] []) (fnEnds Try.prog Try.f63 (.bool (Z34 a0 a1)) []) := by
 refine Tr_tree (kok _ _ _ _ _ _) (E := E_r10_SameSnaps) (L := (loopsOf [(0, Z68 a0 a1 0, [], .need [a0.length = a1.length] (Z4a a0 a1 0))])) 60 9999 (Z10.one (g := loopAt Try.f63 0) (b := 0) (by kernel_rfl) (by kernel_rfl) (by kernel_rfl) (by kernel_rfl) (fun Q h => r10_SameSnapsL_loop a0 a1 hp0 (by omega) (h.1 _ List.mem_cons_self) ⟨0, by first | exact Nat.zero_le _ | (show 0 ≤ a0.length; omega) | (show 0 ≤ a0.length; exact ⟨Nat.zero_le _, by assumption⟩) | (show 0 ≤ a0.length; simp)⟩ Q h.2)) (r10_SameSnapsR a0 a1) (by kernel_rfl) (by kernel_rfl) (by kernel_rfl) ?_
 unfold r10_SameSnapsR
 refine ⟨fun h0 => ?_, fun h0 => ?_⟩
 · have hF : Z34 a0 a1 = false := by first | exact (Zd h0 rfl) | simp only [Z34, h0, cond_true, cond_false]
   exact ⟨trivial, .inl (by (try rw [hF]); kernel_rfl), by (try rw [hF]); kernel_rfl⟩
 · refine ⟨Z1 (by have h9 := h0; simp only [Bool.not_eq_false', decide_eq_true_eq, beq_iff_eq] at h9; omega) (Z7), ?_⟩
   refine ⟨fun h1 => ?_, fun h1 => ?_⟩
   · have hF : Z34 a0 a1 = false := by first | exact (Z4 h0 (Zd h1 rfl)) | simp only [Z34, h0, h1, cond_true, cond_false]
     exact ⟨trivial, .inl (by (try rw [hF]); kernel_rfl), by (try rw [hF]); kernel_rfl⟩
   · have hF : Z34 a0 a1 = true := by first | exact (Z4 h0 (Z4 h1 rfl)) | simp only [Z34, h0, h1, cond_true, cond_false]
     exact ⟨trivial, .inl (by (try rw [hF]); kernel_rfl), by (try rw [hF]); kernel_rfl⟩
noncomputable def r10_SameSnaps_fact : Fact Try.prog := factOf 63 Try.f63 (by kernel_rfl) rfl (by kernel_rfl) [.c (.coll .snap), .c (.coll .snap)] [] true (fun t u => .bool (Z34 t.1 t.2.1)) (fun t u => []) (fun t u => [t.1.length ≤ 1000])
 (fun _ _ _ => rfl) (fun t u => by kernel_rfl) (fun t u => by kernel_rfl) (fun t u h => r10_SameSnapsF_tr t.1 t.2.1 (h _ List.mem_cons_self))
end Go.Proofs.Ytpffbkbadnhmmaa
