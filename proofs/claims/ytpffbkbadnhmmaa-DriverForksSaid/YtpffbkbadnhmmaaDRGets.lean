/- The document's driver: look-ups. -/
import Derived.Test.YtpffbkbadnhmmaaDH1
set_option linter.unusedVariables false
set_option linter.unusedSimpArgs false
set_option maxRecDepth 100000
namespace Go.Proofs.Ytpffbkbadnhmmaa
open Go Go.Eng
noncomputable def E_rD_Put : Env := envOf (P := Try.prog) [rD_vol_fact] [] [] ckf true
def Z57 (a2 : ByteArray) : List ByteArray → Bool
 | [] => false
 | o :: r => cond (decide (o = a2))
  true
  (Z57 a2 r)
def rD_PutLS (a1 : ByteArray) (a2 : ByteArray) (a3 : Int) (b1 : List XZone) (b2 : List XVol) (b3 : List XSnap) (b4 : List XDone) (i : Nat) : St :=
 ⟨slots 52 [(0, .ptr 0 0), (2, .str a2), (3, .int .u64 a3), (9, .int .i64 (Z3 a1 b1 b2 b3 b4)), (10, .int .i64 (i : Int))], (.cells 106 [.vec 1, .vec 2, .vec 3, .vec 4] :: oV b1 b2 b3 b4 [])⟩
def rD_PutLR (a1 : ByteArray) (a2 : ByteArray) (a3 : Int) (b1 : List XZone) (b2 : List XVol) (b3 : List XSnap) (b4 : List XDone) (i : Nat) : RT :=
 (.need [0 ≤ (Z3 a1 b1 b2 b3 b4) ∧ (Z3 a1 b1 b2 b3 b4) < (b2.length : Int)]
   (.ask (decide ((i : Int) < (((b2.getD ((Z3 a1 b1 b2 b3 b4).toNat) default).nodes).length : Int)))
     (.need [0 ≤ (Z3 a1 b1 b2 b3 b4) ∧ (Z3 a1 b1 b2 b3 b4) < (b2.length : Int)]
       (.need [0 ≤ (i : Int) ∧ (i : Int) < (((b2.getD ((Z3 a1 b1 b2 b3 b4).toNat) default).nodes).length : Int)]
         (.ask (decide ((((b2.getD ((Z3 a1 b1 b2 b3 b4).toNat) default).nodes).getD i default) = a2))
           (.need [0 ≤ (Z3 a1 b1 b2 b3 b4) ∧ (Z3 a1 b1 b2 b3 b4) < (b2.length : Int)]
             (.leaf .ret ⟨slots 52 [(8, .int .i64 0)], (.cells 106 [.vec 1, .vec 2, .vec 3, .vec 4] :: oV b1 (b2.set ((Z3 a1 b1 b2 b3 b4).toNat) (⟨(b2.getD ((Z3 a1 b1 b2 b3 b4).toNat) default).name, ((b2.getD ((Z3 a1 b1 b2 b3 b4).toNat) default).size), (b2.getD ((Z3 a1 b1 b2 b3 b4).toNat) default).zone, a3, (b2.getD ((Z3 a1 b1 b2 b3 b4).toNat) default).nodes⟩ : XVol)) b3 b4 [])⟩ []))
           (.leaf .normal ⟨slots 52 [(0, .ptr 0 0), (2, .str a2), (3, .int .u64 a3), (9, .int .i64 (Z3 a1 b1 b2 b3 b4)), (10, .int .i64 (IntKind.i64.wrap ((i : Int) + (1 : Int))))], (.cells 106 [.vec 1, .vec 2, .vec 3, .vec 4] :: oV b1 b2 b3 b4 [])⟩ []))))
     (.leaf (.exit 0) ⟨slots 52 [], (.cells 106 [.vec 1, .vec 2, .vec 3, .vec 4] :: oV b1 b2 b3 b4 [])⟩ [])))
def rD_PutLT (a1 : ByteArray) (a2 : ByteArray) (a3 : Int) (b1 : List XZone) (b2 : List XVol) (b3 : List XSnap) (b4 : List XDone) (i : Nat) : Tree :=
 .ask (Z57 a2 (((b2.getD ((Z3 a1 b1 b2 b3 b4).toNat) default).nodes).drop i)) (.leaf .ret ⟨slots 52 [(8, .int .i64 (0 : Int))], (.cells 106 [.vec 1, .vec 2, .vec 3, .vec 4] :: oV b1 (b2.set ((Z3 a1 b1 b2 b3 b4).toNat) (⟨(b2.getD ((Z3 a1 b1 b2 b3 b4).toNat) default).name, ((b2.getD ((Z3 a1 b1 b2 b3 b4).toNat) default).size), (b2.getD ((Z3 a1 b1 b2 b3 b4).toNat) default).zone, a3, (b2.getD ((Z3 a1 b1 b2 b3 b4).toNat) default).nodes⟩ : XVol)) b3 b4 [])⟩) (.leaf (.exit 0) ⟨slots 52 [], (.cells 106 [.vec 1, .vec 2, .vec 3, .vec 4] :: oV b1 b2 b3 b4 [])⟩)
theorem rD_PutL_loop (a1 : ByteArray) (a2 : ByteArray) (a3 : Int) (b1 : List XZone) (b2 : List XVol) (b3 : List XSnap) (b4 : List XDone) (hp0 : b1.length ≤ 1000) (hp1 : b2.length ≤ 1000) (hp2 : b3.length ≤ 1000) (hp3 : b4.length ≤ 1000) (hp4 : ∀ v ∈ b2, v.nodes.length ≤ 1000) (hlen : ((b2.getD ((Z3 a1 b1 b2 b3 b4).toNat) default).nodes).length < 4611686018427387904) (hn0 : 0 ≤ (Z3 a1 b1 b2 b3 b4) ∧ (Z3 a1 b1 b2 b3 b4) < (b2.length : Int)) (z : { z : Nat // z ≤ ((b2.getD ((Z3 a1 b1 b2 b3 b4).toNat) default).nodes).length }) (Q : Exit → St → Prop) (h : (rD_PutLT a1 a2 a3 b1 b2 b3 b4 z.1).All Q) : Tr Try.prog 5 (.loop (loopAt Try.f71 0)) (rD_PutLS a1 a2 a3 b1 b2 b3 b4 z.1) Q := by
 refine Tr_loopT (kok _ _ _ _ _ _) (E := E_rD_Put) (ι := { z : Nat // z ≤ ((b2.getD ((Z3 a1 b1 b2 b3 b4).toNat) default).nodes).length }) 60 0 (fun _ => noLoops) (fun z => rD_PutLS a1 a2 a3 b1 b2 b3 b4 z.1) (fun z => rD_PutLT a1 a2 a3 b1 b2 b3 b4 z.1) (fun z => rD_PutLR a1 a2 a3 b1 b2 b3 b4 z.1) (fun z => ((b2.getD ((Z3 a1 b1 b2 b3 b4).toNat) default).nodes).length - z.1) (fun _ => Z10.none) (fun z => by obtain ⟨i, hi⟩ := z; kernel_rfl) (fun z => by obtain ⟨i, hi⟩ := z; kernel_rfl) (fun z => by obtain ⟨i, hi⟩ := z; kernel_rfl) ?_ z Q h
 rintro ⟨i, hi⟩ Q hT
 replace hT : (rD_PutLT a1 a2 a3 b1 b2 b3 b4 i).All Q := hT
 replace hi : i ≤ ((b2.getD ((Z3 a1 b1 b2 b3 b4).toNat) default).nodes).length := hi
 show (rD_PutLR a1 a2 a3 b1 b2 b3 b4 i).All _
 unfold rD_PutLR
 refine ⟨Z1 (by (try refine fun (_ : _ = _) => ?_); (try refine fun (_ : _ ∧ _) => ?_); (try have hv1 := vol_rng a1 b1 b2 b3 b4); (try have hv2 := zone_rng a1 b1 b2 b3 b4); (try have hv3 := last_rng a1 a2 b1 b2 b3 b4); (try have hv4 := snap_rng a1 b1 b2 b3 b4); (try simp only [decide_eq_true_eq, decide_eq_false_iff_not] at *); omega) (Z7), ?_⟩
 refine ⟨fun h0 => ?_, fun h0 => ?_⟩
 · have hlt : i < ((b2.getD ((Z3 a1 b1 b2 b3 b4).toNat) default).nodes).length := by simpa using h0
   have hd := drop_getD hlt
   have hw := wrap_succ (i := i) (by omega)
   refine ⟨Z1 (by (try refine fun (_ : _ = _) => ?_); (try refine fun (_ : _ ∧ _) => ?_); (try have hv1 := vol_rng a1 b1 b2 b3 b4); (try have hv2 := zone_rng a1 b1 b2 b3 b4); (try have hv3 := last_rng a1 a2 b1 b2 b3 b4); (try have hv4 := snap_rng a1 b1 b2 b3 b4); (try simp only [decide_eq_true_eq, decide_eq_false_iff_not] at *); omega) (Z7), ?_⟩
   refine ⟨Z1 (by (try refine fun (_ : _ = _) => ?_); (try refine fun (_ : _ ∧ _) => ?_); first | omega | (constructor <;> omega)) (Z7), ?_⟩
   refine ⟨fun h1 => ?_, fun h1 => ?_⟩
   · refine ⟨Z1 (by (try refine fun (_ : _ = _) => ?_); (try refine fun (_ : _ ∧ _) => ?_); (try have hv1 := vol_rng a1 b1 b2 b3 b4); (try have hv2 := zone_rng a1 b1 b2 b3 b4); (try have hv3 := last_rng a1 a2 b1 b2 b3 b4); (try have hv4 := snap_rng a1 b1 b2 b3 b4); (try simp only [decide_eq_true_eq, decide_eq_false_iff_not] at *); omega) (Z7), ?_⟩
     have hF : Z57 a2 (((b2.getD ((Z3 a1 b1 b2 b3 b4).toNat) default).nodes).drop i) = true := by rw [hd]; first | exact (Zd h1 rfl) | simp only [Z57, h0, h1, cond_true, cond_false]
     unfold rD_PutLT at hT
     rw [hF] at hT
     exact hT.1 rfl
   · have hF : Z57 a2 (((b2.getD ((Z3 a1 b1 b2 b3 b4).toNat) default).nodes).drop i) = Z57 a2 (((b2.getD ((Z3 a1 b1 b2 b3 b4).toNat) default).nodes).drop (i + 1)) := by rw [hd]; first | exact (Z4 h1 rfl) | simp only [Z57, h0, h1, cond_true, cond_false]
     refine ⟨⟨(i + 1), by show (i + 1) ≤ ((b2.getD ((Z3 a1 b1 b2 b3 b4).toNat) default).nodes).length; omega⟩, by show ((b2.getD ((Z3 a1 b1 b2 b3 b4).toNat) default).nodes).length - (i + 1) < ((b2.getD ((Z3 a1 b1 b2 b3 b4).toNat) default).nodes).length - i; omega, ?_, ?_⟩
     · show _ = rD_PutLS a1 a2 a3 b1 b2 b3 b4 (i + 1)
       unfold rD_PutLS
       simp only [hw]
     · show (rD_PutLT a1 a2 a3 b1 b2 b3 b4 (i + 1)).All Q
       unfold rD_PutLT at hT ⊢
       rw [hF] at hT
       exact hT
 · have hge : ¬ i < ((b2.getD ((Z3 a1 b1 b2 b3 b4).toNat) default).nodes).length := by simpa using h0
   have hd : ((b2.getD ((Z3 a1 b1 b2 b3 b4).toNat) default).nodes).drop i = [] := List.drop_eq_nil_of_le (by omega)
   have hF : Z57 a2 (((b2.getD ((Z3 a1 b1 b2 b3 b4).toNat) default).nodes).drop i) = false := by rw [hd]; first | exact rfl | simp only [Z57, h0, cond_true, cond_false]
   unfold rD_PutLT at hT
   rw [hF] at hT
   exact hT.2 rfl
def Z48 (a1 : ByteArray) (a2 : ByteArray) (a3 : Int) (b1 : List XZone) (b2 : List XVol) (b3 : List XSnap) (b4 : List XDone) : Int × List XVol :=
 cond (decide ((Z3 a1 b1 b2 b3 b4) < (0 : Int)))
   ((5 : Int), b2)
   (cond (Z57 a2 ((b2.getD ((Z3 a1 b1 b2 b3 b4).toNat) default).nodes))
     ((0 : Int), (b2.set ((Z3 a1 b1 b2 b3 b4).toNat) (⟨(b2.getD ((Z3 a1 b1 b2 b3 b4).toNat) default).name, ((b2.getD ((Z3 a1 b1 b2 b3 b4).toNat) default).size), (b2.getD ((Z3 a1 b1 b2 b3 b4).toNat) default).zone, a3, (b2.getD ((Z3 a1 b1 b2 b3 b4).toNat) default).nodes⟩ : XVol)))
     ((10 : Int), b2))
def rD_PutR (a1 : ByteArray) (a2 : ByteArray) (a3 : Int) (b1 : List XZone) (b2 : List XVol) (b3 : List XSnap) (b4 : List XDone) : RT :=
 (.ask false
   .fail
   (.need [b1.length ≤ 1000, b2.length ≤ 1000, b3.length ≤ 1000, b4.length ≤ 1000]
     (.ask (decide ((Z3 a1 b1 b2 b3 b4) < (0 : Int)))
       (.leaf .ret ⟨slots 52 [(8, .int .i64 5)], (.cells 106 [.vec 1, .vec 2, .vec 3, .vec 4] :: oV b1 b2 b3 b4 [])⟩ [])
       (.need [0 ≤ (Z3 a1 b1 b2 b3 b4) ∧ (Z3 a1 b1 b2 b3 b4) < (b2.length : Int)]
         (.ask (Z57 a2 ((b2.getD ((Z3 a1 b1 b2 b3 b4).toNat) default).nodes))
           (.leaf .ret ⟨slots 52 [(8, .int .i64 (0 : Int))], (.cells 106 [.vec 1, .vec 2, .vec 3, .vec 4] :: oV b1 (b2.set ((Z3 a1 b1 b2 b3 b4).toNat) (⟨(b2.getD ((Z3 a1 b1 b2 b3 b4).toNat) default).name, ((b2.getD ((Z3 a1 b1 b2 b3 b4).toNat) default).size), (b2.getD ((Z3 a1 b1 b2 b3 b4).toNat) default).zone, a3, (b2.getD ((Z3 a1 b1 b2 b3 b4).toNat) default).nodes⟩ : XVol)) b3 b4 [])⟩ [])
           (.leaf .ret ⟨slots 52 [(8, .int .i64 10)], (.cells 106 [.vec 1, .vec 2, .vec 3, .vec 4] :: oV b1 b2 b3 b4 [])⟩ []))))))
theorem rD_PutF_tr (a1 : ByteArray) (a2 : ByteArray) (a3 : Int) (b1 : List XZone) (b2 : List XVol) (b3 : List XSnap) (b4 : List XDone) (hp0 : b1.length ≤ 1000) (hp1 : b2.length ≤ 1000) (hp2 : b3.length ≤ 1000) (hp3 : b4.length ≤ 1000) (hp4 : ∀ v ∈ b2, v.nodes.length ≤ 1000) : Tr Try.prog 5 (bodyOf Try.f71) (fnBegins Try.f71 [.ptr 0 0, .str a1, .str a2, .int .u64 a3] (.cells 106 [.vec 1, .vec 2, .vec 3, .vec 4] :: oV b1 b2 b3 b4 [])) (fnEnds Try.prog Try.f71 (.int .i64 ((Z48 a1 a2 a3 b1 b2 b3 b4).1)) (.cells 106 [.vec 1, .vec 2, .vec 3, .vec 4] :: oV b1 ((Z48 a1 a2 a3 b1 b2 b3 b4).2) b3 b4 [])) := by
 refine Tr_tree (kok _ _ _ _ _ _) (E := E_rD_Put) (L := (loopsOf [(0, rD_PutLS a1 a2 a3 b1 b2 b3 b4 0, [], .need [0 ≤ (Z3 a1 b1 b2 b3 b4) ∧ (Z3 a1 b1 b2 b3 b4) < (b2.length : Int)] (rD_PutLT a1 a2 a3 b1 b2 b3 b4 0))])) 60 9999 (Z10.one (g := loopAt Try.f71 0) (b := 0) (by kernel_rfl) (by kernel_rfl) (by kernel_rfl) (by kernel_rfl) (fun Q h => rD_PutL_loop a1 a2 a3 b1 b2 b3 b4 hp0 hp1 hp2 hp3 hp4 (by first | (have h9 := hn0; have h8 := hp4 _ (gD_memI h9.1 h9.2); omega) | (have h9 := h.1 _ List.mem_cons_self; have h8 := hp4 _ (gD_memI h9.1 h9.2); omega)) (h.1 _ List.mem_cons_self) ⟨0, by first | exact Nat.zero_le _ | (show 0 ≤ ((b2.getD ((Z3 a1 b1 b2 b3 b4).toNat) default).nodes).length; omega) | (show 0 ≤ ((b2.getD ((Z3 a1 b1 b2 b3 b4).toNat) default).nodes).length; exact ⟨Nat.zero_le _, by assumption⟩) | (show 0 ≤ ((b2.getD ((Z3 a1 b1 b2 b3 b4).toNat) default).nodes).length; simp)⟩ Q h.2)) (rD_PutR a1 a2 a3 b1 b2 b3 b4) (by kernel_rfl) (by kernel_rfl) (by kernel_rfl) ?_
 unfold rD_PutR
 refine ⟨fun h0 => ?_, fun h0 => ?_⟩
 · exact absurd h0 (by simp)
 · refine ⟨(by (iterate 4 refine Z1 (by omega) ?_); exact Z7), ?_⟩
   refine ⟨fun h1 => ?_, fun h1 => ?_⟩
   · have hF : Z48 a1 a2 a3 b1 b2 b3 b4 = ((5 : Int), b2) := by first | exact (Zd h1 rfl) | simp only [Z48, h0, h1, cond_true, cond_false]
     exact ⟨trivial, .inl (by (try rw [hF]); kernel_rfl), by (try rw [hF]); kernel_rfl⟩
   · refine ⟨Z1 (by (try refine fun (_ : _ = _) => ?_); (try refine fun (_ : _ ∧ _) => ?_); (try have hv1 := vol_rng a1 b1 b2 b3 b4); (try have hv2 := zone_rng a1 b1 b2 b3 b4); (try have hv3 := last_rng a1 a2 b1 b2 b3 b4); (try have hv4 := snap_rng a1 b1 b2 b3 b4); (try simp only [decide_eq_true_eq, decide_eq_false_iff_not] at *); omega) (Z7), ?_⟩
     refine ⟨fun h2 => ?_, fun h2 => ?_⟩
     · have hF : Z48 a1 a2 a3 b1 b2 b3 b4 = ((0 : Int), (b2.set ((Z3 a1 b1 b2 b3 b4).toNat) (⟨(b2.getD ((Z3 a1 b1 b2 b3 b4).toNat) default).name, ((b2.getD ((Z3 a1 b1 b2 b3 b4).toNat) default).size), (b2.getD ((Z3 a1 b1 b2 b3 b4).toNat) default).zone, a3, (b2.getD ((Z3 a1 b1 b2 b3 b4).toNat) default).nodes⟩ : XVol))) := by first | exact (Z4 h1 (Zd h2 rfl)) | simp only [Z48, h0, h1, h2, cond_true, cond_false]
       exact ⟨trivial, .inl (by (try rw [hF]); kernel_rfl), by (try rw [hF]); kernel_rfl⟩
     · have hF : Z48 a1 a2 a3 b1 b2 b3 b4 = ((10 : Int), b2) := by first | exact (Z4 h1 (Z4 h2 rfl)) | simp only [Z48, h0, h1, h2, cond_true, cond_false]
       exact ⟨trivial, .inl (by (try rw [hF]); kernel_rfl), by (try rw [hF]); kernel_rfl⟩
noncomputable def rD_Put_fact0 : Fact Try.prog := factOf 71 Try.f71 (by kernel_rfl) rfl (by kernel_rfl) [.c (.ptr 0 0), .c (.str), .c (.str), .c (.int .u64)] [.cells 106 [.vec 1, .vec 2, .vec 3, .vec 4], .vec false .zone, .vec false .vol, .vec false .snap, .vec false .done] false (fun t u => .int .i64 ((Z48 t.2.1 t.2.2.1 t.2.2.2.1 u.2.1 u.2.2.1 u.2.2.2.1 u.2.2.2.2.1).1)) (fun t u => (.cells 106 [.vec 1, .vec 2, .vec 3, .vec 4] :: oV (u.2.1) ((Z48 t.2.1 t.2.2.1 t.2.2.2.1 u.2.1 u.2.2.1 u.2.2.2.1 u.2.2.2.2.1).2) (u.2.2.2.1) (u.2.2.2.2.1) [])) (fun t u => [u.2.1.length ≤ 1000, u.2.2.1.length ≤ 1000, u.2.2.2.1.length ≤ 1000, u.2.2.2.2.1.length ≤ 1000, ∀ v ∈ u.2.2.1, v.nodes.length ≤ 1000])
 (nofun) (fun t u => by kernel_rfl) (fun t u => by kernel_rfl) (fun t u h => rD_PutF_tr t.2.1 t.2.2.1 t.2.2.2.1 u.2.1 u.2.2.1 u.2.2.2.1 u.2.2.2.2.1 (h _ List.mem_cons_self) (h _ (List.mem_cons_of_mem _ List.mem_cons_self)) (h _ (List.mem_cons_of_mem _ (List.mem_cons_of_mem _ List.mem_cons_self))) (h _ (List.mem_cons_of_mem _ (List.mem_cons_of_mem _ (List.mem_cons_of_mem _ List.mem_cons_self)))) (h _ (List.mem_cons_of_mem _ (List.mem_cons_of_mem _ (List.mem_cons_of_mem _ (List.mem_cons_of_mem _ List.mem_cons_self))))))
noncomputable def rD_Put_fact : Fact Try.prog := factThin rD_Put_fact0 [.c (.ptr 0 0), .c (.str), .c (.str), .c (.int .u64)] [.cells 106 [.vec 1, .vec 2, .vec 3, .vec 4], .vec false .zone, .vec false .vol, .vec false .snap, .vec false .done] (fun t u => .int .i64 ((Z48 t.2.1 t.2.2.1 t.2.2.2.1 u.2.1 u.2.2.1 u.2.2.2.1 u.2.2.2.2.1).1)) (fun t u => (.cells 106 [.vec 1, .vec 2, .vec 3, .vec 4] :: oV (u.2.1) ((Z48 t.2.1 t.2.2.1 t.2.2.2.1 u.2.1 u.2.2.1 u.2.2.2.1 u.2.2.2.2.1).2) (u.2.2.2.1) (u.2.2.2.2.1) [])) (fun t u => [u.2.1.length ≤ 1000, u.2.2.1.length ≤ 1000, u.2.2.2.1.length ≤ 1000, u.2.2.2.2.1.length ≤ 1000, ∀ v ∈ u.2.2.1, v.nodes.length ≤ 1000]) rfl [0, 1, 3, 4] (by
 intro t u k hk
 simp only [List.mem_cons, List.not_mem_nil, or_false] at hk
 rcases hk with rfl | rfl | rfl | rfl
 all_goals exact ⟨by decide, rfl⟩)
noncomputable def E_rD_Room : Env := envOf (P := Try.prog) [rD_zone_fact] [] [] ckf true
def Z63 (a1 : ByteArray) (b1 : List XZone) (b2 : List XVol) (b3 : List XSnap) (b4 : List XDone) : Int × Bool :=
 cond (decide ((Zf a1 b1 b2 b3 b4) < (0 : Int)))
  ((0 : Int), false)
  (((b1.getD ((Zf a1 b1 b2 b3 b4).toNat) default).room), true)
def rD_RoomR (a1 : ByteArray) (b1 : List XZone) (b2 : List XVol) (b3 : List XSnap) (b4 : List XDone) : RT :=
 (.need [b1.length ≤ 1000, b2.length ≤ 1000, b3.length ≤ 1000, b4.length ≤ 1000]
   (.ask (decide ((Zf a1 b1 b2 b3 b4) < (0 : Int)))
     (.leaf .ret ⟨slots 20 [(4, .int .i64 0), (5, .bool false)], (.cells 106 [.vec 1, .vec 2, .vec 3, .vec 4] :: oV b1 b2 b3 b4 [])⟩ [])
     (.need [0 ≤ (Zf a1 b1 b2 b3 b4) ∧ (Zf a1 b1 b2 b3 b4) < (b1.length : Int)]
       (.leaf .ret ⟨slots 20 [(4, .int .i64 ((b1.getD ((Zf a1 b1 b2 b3 b4).toNat) default).room)), (5, .bool true)], (.cells 106 [.vec 1, .vec 2, .vec 3, .vec 4] :: oV b1 b2 b3 b4 [])⟩ []))))
theorem rD_RoomF_tr (a1 : ByteArray) (b1 : List XZone) (b2 : List XVol) (b3 : List XSnap) (b4 : List XDone) (hp0 : b1.length ≤ 1000) (hp1 : b2.length ≤ 1000) (hp2 : b3.length ≤ 1000) (hp3 : b4.length ≤ 1000) : Tr Try.prog 5 (bodyOf Try.f60) (fnBegins Try.f60 [.ptr 0 0, .str a1] (.cells 106 [.vec 1, .vec 2, .vec 3, .vec 4] :: oV b1 b2 b3 b4 [])) (fnEnds Try.prog Try.f60 (.tup [.int .i64 ((Z63 a1 b1 b2 b3 b4).1), .bool ((Z63 a1 b1 b2 b3 b4).2)]) (.cells 106 [.vec 1, .vec 2, .vec 3, .vec 4] :: oV b1 b2 b3 b4 [])) := by
 refine Tr_tree (kok _ _ _ _ _ _) (E := E_rD_Room) (L := noLoops) 60 9999 Z10.none (rD_RoomR a1 b1 b2 b3 b4) (by kernel_rfl) (by kernel_rfl) (by kernel_rfl) ?_
 unfold rD_RoomR
 refine ⟨(by (iterate 4 refine Z1 (by omega) ?_); exact Z7), ?_⟩
 refine ⟨fun h0 => ?_, fun h0 => ?_⟩
 · have hF : Z63 a1 b1 b2 b3 b4 = ((0 : Int), false) := by first | exact (Zd h0 rfl) | simp only [Z63, h0, cond_true, cond_false]
   exact ⟨trivial, .inl (by (try rw [hF]); kernel_rfl), by (try rw [hF]); kernel_rfl⟩
 · refine ⟨Z1 (by (try refine fun (_ : _ = _) => ?_); (try refine fun (_ : _ ∧ _) => ?_); (try have hv1 := vol_rng a1 b1 b2 b3 b4); (try have hv2 := zone_rng a1 b1 b2 b3 b4); (try have hv3 := last_rng a1 a2 b1 b2 b3 b4); (try have hv4 := snap_rng a1 b1 b2 b3 b4); (try simp only [decide_eq_true_eq, decide_eq_false_iff_not] at *); omega) (Z7), ?_⟩
   have hF : Z63 a1 b1 b2 b3 b4 = (((b1.getD ((Zf a1 b1 b2 b3 b4).toNat) default).room), true) := by first | exact (Z4 h0 rfl) | simp only [Z63, h0, cond_true, cond_false]
   exact ⟨trivial, .inl (by (try rw [hF]); kernel_rfl), by (try rw [hF]); kernel_rfl⟩
noncomputable def rD_Room_fact : Fact Try.prog := factOf 60 Try.f60 (by kernel_rfl) rfl (by kernel_rfl) [.c (.ptr 0 0), .c (.str)] [.cells 106 [.vec 1, .vec 2, .vec 3, .vec 4], .vec false .zone, .vec false .vol, .vec false .snap, .vec false .done] true (fun t u => .tup [.int .i64 ((Z63 t.2.1 u.2.1 u.2.2.1 u.2.2.2.1 u.2.2.2.2.1).1), .bool ((Z63 t.2.1 u.2.1 u.2.2.1 u.2.2.2.1 u.2.2.2.2.1).2)]) (fun t u => HPL.enc _ u) (fun t u => [u.2.1.length ≤ 1000, u.2.2.1.length ≤ 1000, u.2.2.2.1.length ≤ 1000, u.2.2.2.2.1.length ≤ 1000])
 (fun _ _ _ => rfl) (fun t u => by kernel_rfl) (fun t u => by kernel_rfl) (fun t u h => rD_RoomF_tr t.2.1 u.2.1 u.2.2.1 u.2.2.2.1 u.2.2.2.2.1 (h _ List.mem_cons_self) (h _ (List.mem_cons_of_mem _ List.mem_cons_self)) (h _ (List.mem_cons_of_mem _ (List.mem_cons_of_mem _ List.mem_cons_self))) (h _ (List.mem_cons_of_mem _ (List.mem_cons_of_mem _ (List.mem_cons_of_mem _ List.mem_cons_self)))))
noncomputable def E_rD_Seen : Env := envOf (P := Try.prog) [rD_last_fact] [] [] ckf true
def rD_SeenF (a1 : Int) (a2 : ByteArray) (b1 : List XZone) (b2 : List XVol) (b3 : List XSnap) (b4 : List XDone) : Int :=
 cond (decide ((Z14 a1 a2 b1 b2 b3 b4) < (0 : Int)))
  (0 : Int)
  ((b4.getD ((Z14 a1 a2 b1 b2 b3 b4).toNat) default).c.num)
def rD_SeenR (a1 : Int) (a2 : ByteArray) (b1 : List XZone) (b2 : List XVol) (b3 : List XSnap) (b4 : List XDone) : RT :=
 (.need [b1.length ≤ 1000, b2.length ≤ 1000, b3.length ≤ 1000, b4.length ≤ 1000]
   (.ask (decide ((Z14 a1 a2 b1 b2 b3 b4) < (0 : Int)))
     (.leaf .ret ⟨slots 23 [(6, .int .u64 0)], (.cells 106 [.vec 1, .vec 2, .vec 3, .vec 4] :: oV b1 b2 b3 b4 [])⟩ [])
     (.need [0 ≤ (Z14 a1 a2 b1 b2 b3 b4) ∧ (Z14 a1 a2 b1 b2 b3 b4) < (b4.length : Int)]
       (.leaf .ret ⟨slots 23 [(6, .int .u64 ((b4.getD ((Z14 a1 a2 b1 b2 b3 b4).toNat) default).c.num))], (.cells 106 [.vec 1, .vec 2, .vec 3, .vec 4] :: oV b1 b2 b3 b4 [])⟩ []))))
theorem rD_SeenF_tr (a1 : Int) (a2 : ByteArray) (b1 : List XZone) (b2 : List XVol) (b3 : List XSnap) (b4 : List XDone) (hp0 : b1.length ≤ 1000) (hp1 : b2.length ≤ 1000) (hp2 : b3.length ≤ 1000) (hp3 : b4.length ≤ 1000) : Tr Try.prog 5 (bodyOf Try.f65) (fnBegins Try.f65 [.ptr 0 0, .int .u8 a1, .str a2] (.cells 106 [.vec 1, .vec 2, .vec 3, .vec 4] :: oV b1 b2 b3 b4 [])) (fnEnds Try.prog Try.f65 (.int .u64 (rD_SeenF a1 a2 b1 b2 b3 b4)) (.cells 106 [.vec 1, .vec 2, .vec 3, .vec 4] :: oV b1 b2 b3 b4 [])) := by
 refine Tr_tree (kok _ _ _ _ _ _) (E := E_rD_Seen) (L := noLoops) 60 9999 Z10.none (rD_SeenR a1 a2 b1 b2 b3 b4) (by kernel_rfl) (by kernel_rfl) (by kernel_rfl) ?_
 unfold rD_SeenR
 refine ⟨(by (iterate 4 refine Z1 (by omega) ?_); exact Z7), ?_⟩
 refine ⟨fun h0 => ?_, fun h0 => ?_⟩
 · have hF : rD_SeenF a1 a2 b1 b2 b3 b4 = (0 : Int) := by first | exact (Zd h0 rfl) | simp only [rD_SeenF, h0, cond_true, cond_false]
   exact ⟨trivial, .inl (by (try rw [hF]); kernel_rfl), by (try rw [hF]); kernel_rfl⟩
 · refine ⟨Z1 (by (try refine fun (_ : _ = _) => ?_); (try refine fun (_ : _ ∧ _) => ?_); (try have hv1 := vol_rng a1 b1 b2 b3 b4); (try have hv2 := zone_rng a1 b1 b2 b3 b4); (try have hv3 := last_rng a1 a2 b1 b2 b3 b4); (try have hv4 := snap_rng a1 b1 b2 b3 b4); (try simp only [decide_eq_true_eq, decide_eq_false_iff_not] at *); omega) (Z7), ?_⟩
   have hF : rD_SeenF a1 a2 b1 b2 b3 b4 = ((b4.getD ((Z14 a1 a2 b1 b2 b3 b4).toNat) default).c.num) := by first | exact (Z4 h0 rfl) | simp only [rD_SeenF, h0, cond_true, cond_false]
   exact ⟨trivial, .inl (by (try rw [hF]); kernel_rfl), by (try rw [hF]); kernel_rfl⟩
noncomputable def rD_Seen_fact : Fact Try.prog := factOf 65 Try.f65 (by kernel_rfl) rfl (by kernel_rfl) [.c (.ptr 0 0), .c (.int .u8), .c (.str)] [.cells 106 [.vec 1, .vec 2, .vec 3, .vec 4], .vec false .zone, .vec false .vol, .vec false .snap, .vec false .done] true (fun t u => .int .u64 (rD_SeenF t.2.1 t.2.2.1 u.2.1 u.2.2.1 u.2.2.2.1 u.2.2.2.2.1)) (fun t u => HPL.enc _ u) (fun t u => [u.2.1.length ≤ 1000, u.2.2.1.length ≤ 1000, u.2.2.2.1.length ≤ 1000, u.2.2.2.2.1.length ≤ 1000])
 (fun _ _ _ => rfl) (fun t u => by kernel_rfl) (fun t u => by kernel_rfl) (fun t u h => rD_SeenF_tr t.2.1 t.2.2.1 u.2.1 u.2.2.1 u.2.2.2.1 u.2.2.2.2.1 (h _ List.mem_cons_self) (h _ (List.mem_cons_of_mem _ List.mem_cons_self)) (h _ (List.mem_cons_of_mem _ (List.mem_cons_of_mem _ List.mem_cons_self))) (h _ (List.mem_cons_of_mem _ (List.mem_cons_of_mem _ (List.mem_cons_of_mem _ List.mem_cons_self)))))
end Go.Proofs.Ytpffbkbadnhmmaa
