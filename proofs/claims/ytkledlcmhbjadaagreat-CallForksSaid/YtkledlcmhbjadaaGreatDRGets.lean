/- The document's driver: look-ups. -/
import Derived.Test.YtkledlcmhbjadaaGreatDH1
set_option linter.unusedVariables false
set_option linter.unusedSimpArgs false
set_option maxRecDepth 100000
namespace Go.Proofs.YtkledlcmhbjadaaGreat
open Go Go.Eng
noncomputable def E_rD_Put : Env := Z65 (P := Tryz.prog) [Z135] [] [] ckf true
def Z91 (a2 : BA) : List BA → Bool
 | [] => false
 | o :: r => cond (decide (o = a2))
  true
  (Z91 a2 r)
def Z1df (a1 : BA) (a2 : BA) (a3 : Int) (b1 : LZ) (b2 : LV) (b3 : LS) (b4 : LQ) (i : Nat) : St :=
 ⟨Za 52 [(0, .ptr 0 0), (2, .str a2), (3, .int .u64 a3), (9, .int .i64 (Z5 a1 b1 b2 b3 b4)), (10, .int .i64 (i : Int))], (.cells 111 [.vec 1, .vec 2, .vec 3, .vec 4] :: oV b1 b2 b3 b4 [])⟩
def rD_PutLR (a1 : BA) (a2 : BA) (a3 : Int) (b1 : LZ) (b2 : LV) (b3 : LS) (b4 : LQ) (i : Nat) : RT :=
 (.need [0 ≤ (Z5 a1 b1 b2 b3 b4) ∧ (Z5 a1 b1 b2 b3 b4) < (b2.length : Int)]
   (.ask (decide ((i : Int) < (((b2.getD ((Z5 a1 b1 b2 b3 b4).toNat) default).nodes).length : Int)))
     (.need [0 ≤ (Z5 a1 b1 b2 b3 b4) ∧ (Z5 a1 b1 b2 b3 b4) < (b2.length : Int)]
       (.need [0 ≤ (i : Int) ∧ (i : Int) < (((b2.getD ((Z5 a1 b1 b2 b3 b4).toNat) default).nodes).length : Int)]
         (.ask (decide ((((b2.getD ((Z5 a1 b1 b2 b3 b4).toNat) default).nodes).getD i default) = a2))
           (.need [0 ≤ (Z5 a1 b1 b2 b3 b4) ∧ (Z5 a1 b1 b2 b3 b4) < (b2.length : Int)]
             (.leaf .ret ⟨Za 52 [(8, .int .i64 0)], (.cells 111 [.vec 1, .vec 2, .vec 3, .vec 4] :: oV b1 (b2.set ((Z5 a1 b1 b2 b3 b4).toNat) (⟨(b2.getD ((Z5 a1 b1 b2 b3 b4).toNat) default).name, ((b2.getD ((Z5 a1 b1 b2 b3 b4).toNat) default).size), (b2.getD ((Z5 a1 b1 b2 b3 b4).toNat) default).zone, a3, (b2.getD ((Z5 a1 b1 b2 b3 b4).toNat) default).nodes⟩ : XVol)) b3 b4 [])⟩ []))
           (.leaf .normal ⟨Za 52 [(0, .ptr 0 0), (2, .str a2), (3, .int .u64 a3), (9, .int .i64 (Z5 a1 b1 b2 b3 b4)), (10, .int .i64 (IntKind.i64.wrap ((i : Int) + (1 : Int))))], (.cells 111 [.vec 1, .vec 2, .vec 3, .vec 4] :: oV b1 b2 b3 b4 [])⟩ []))))
     (.leaf (.exit 0) ⟨Za 52 [], (.cells 111 [.vec 1, .vec 2, .vec 3, .vec 4] :: oV b1 b2 b3 b4 [])⟩ [])))
def Z101 (a1 : BA) (a2 : BA) (a3 : Int) (b1 : LZ) (b2 : LV) (b3 : LS) (b4 : LQ) (i : Nat) : Tree :=
 .ask (Z91 a2 (((b2.getD ((Z5 a1 b1 b2 b3 b4).toNat) default).nodes).drop i)) (.leaf .ret ⟨Za 52 [(8, .int .i64 (0 : Int))], (.cells 111 [.vec 1, .vec 2, .vec 3, .vec 4] :: oV b1 (b2.set ((Z5 a1 b1 b2 b3 b4).toNat) (⟨(b2.getD ((Z5 a1 b1 b2 b3 b4).toNat) default).name, ((b2.getD ((Z5 a1 b1 b2 b3 b4).toNat) default).size), (b2.getD ((Z5 a1 b1 b2 b3 b4).toNat) default).zone, a3, (b2.getD ((Z5 a1 b1 b2 b3 b4).toNat) default).nodes⟩ : XVol)) b3 b4 [])⟩) (.leaf (.exit 0) ⟨Za 52 [], (.cells 111 [.vec 1, .vec 2, .vec 3, .vec 4] :: oV b1 b2 b3 b4 [])⟩)
theorem rD_PutL_loop (a1 : BA) (a2 : BA) (a3 : Int) (b1 : LZ) (b2 : LV) (b3 : LS) (b4 : LQ) (hp0 : b1.length ≤ 1000) (hp1 : b2.length ≤ 1000) (hp2 : b3.length ≤ 1000) (hp3 : b4.length ≤ 1000) (hp4 : ∀ v ∈ b2, v.nodes.length ≤ 1000) (hlen : ((b2.getD ((Z5 a1 b1 b2 b3 b4).toNat) default).nodes).length < 4611686018427387904) (hn0 : 0 ≤ (Z5 a1 b1 b2 b3 b4) ∧ (Z5 a1 b1 b2 b3 b4) < (b2.length : Int)) (z : { z : Nat // z ≤ ((b2.getD ((Z5 a1 b1 b2 b3 b4).toNat) default).nodes).length }) (Q : Exit → St → Prop) (h : (Z101 a1 a2 a3 b1 b2 b3 b4 z.1).All Q) : Tr Tryz.prog 5 (.loop (Z47 Tryz.f57 0)) (Z1df a1 a2 a3 b1 b2 b3 b4 z.1) Q := by
 refine Z60 (kok _ _ _ _ _ _) (E := E_rD_Put) (ι := { z : Nat // z ≤ ((b2.getD ((Z5 a1 b1 b2 b3 b4).toNat) default).nodes).length }) 60 0 (fun _ => Z32) (fun z => Z1df a1 a2 a3 b1 b2 b3 b4 z.1) (fun z => Z101 a1 a2 a3 b1 b2 b3 b4 z.1) (fun z => rD_PutLR a1 a2 a3 b1 b2 b3 b4 z.1) (fun z => ((b2.getD ((Z5 a1 b1 b2 b3 b4).toNat) default).nodes).length - z.1) (fun _ => Z14.none) (fun z => by obtain ⟨i, hi⟩ := z; kernel_rfl) (fun z => by obtain ⟨i, hi⟩ := z; kernel_rfl) (fun z => by obtain ⟨i, hi⟩ := z; kernel_rfl) ?_ z Q h
 rintro ⟨i, hi⟩ Q hT
 replace hT : (Z101 a1 a2 a3 b1 b2 b3 b4 i).All Q := hT
 replace hi : i ≤ ((b2.getD ((Z5 a1 b1 b2 b3 b4).toNat) default).nodes).length := hi
 show (rD_PutLR a1 a2 a3 b1 b2 b3 b4 i).All _
 unfold rD_PutLR
 refine ⟨Z2 (by (try have hv1 := Z20b a1 b1 b2 b3 b4); (try have hv2 := Zcc a1 b1 b2 b3 b4); (try have hv3 := Z1ea a1 a2 b1 b2 b3 b4); (try have hv4 := Z18a a1 b1 b2 b3 b4); (try simp only [decide_eq_true_eq, decide_eq_false_iff_not] at *); omega) (Z9), ?_⟩
 refine ⟨fun h0 => ?_, fun h0 => ?_⟩
 · have hlt : i < ((b2.getD ((Z5 a1 b1 b2 b3 b4).toNat) default).nodes).length := by simpa using h0
   have hd := Z64 hlt
   have hw := Z4e (i := i) (by omega)
   refine ⟨Z2 (by (try have hv1 := Z20b a1 b1 b2 b3 b4); (try have hv2 := Zcc a1 b1 b2 b3 b4); (try have hv3 := Z1ea a1 a2 b1 b2 b3 b4); (try have hv4 := Z18a a1 b1 b2 b3 b4); (try simp only [decide_eq_true_eq, decide_eq_false_iff_not] at *); omega) (Z9), ?_⟩
   refine ⟨Z2 (by first | omega | (constructor <;> omega)) (Z9), ?_⟩
   refine ⟨fun h1 => ?_, fun h1 => ?_⟩
   · refine ⟨Z2 (by (try have hv1 := Z20b a1 b1 b2 b3 b4); (try have hv2 := Zcc a1 b1 b2 b3 b4); (try have hv3 := Z1ea a1 a2 b1 b2 b3 b4); (try have hv4 := Z18a a1 b1 b2 b3 b4); (try simp only [decide_eq_true_eq, decide_eq_false_iff_not] at *); omega) (Z9), ?_⟩
     have hF : Z91 a2 (((b2.getD ((Z5 a1 b1 b2 b3 b4).toNat) default).nodes).drop i) = true := by rw [hd]; first | exact (Z12 h1 rfl) | simp only [Z91, h0, h1, cond_true, cond_false]
     unfold Z101 at hT
     rw [hF] at hT
     exact hT.1 rfl
   · have hF : Z91 a2 (((b2.getD ((Z5 a1 b1 b2 b3 b4).toNat) default).nodes).drop i) = Z91 a2 (((b2.getD ((Z5 a1 b1 b2 b3 b4).toNat) default).nodes).drop (i + 1)) := by rw [hd]; first | exact (Z3 h1 rfl) | simp only [Z91, h0, h1, cond_true, cond_false]
     refine ⟨⟨(i + 1), by show (i + 1) ≤ ((b2.getD ((Z5 a1 b1 b2 b3 b4).toNat) default).nodes).length; omega⟩, by show ((b2.getD ((Z5 a1 b1 b2 b3 b4).toNat) default).nodes).length - (i + 1) < ((b2.getD ((Z5 a1 b1 b2 b3 b4).toNat) default).nodes).length - i; omega, ?_, ?_⟩
     · show _ = Z1df a1 a2 a3 b1 b2 b3 b4 (i + 1)
       unfold Z1df
       simp only [hw]
     · show (Z101 a1 a2 a3 b1 b2 b3 b4 (i + 1)).All Q
       unfold Z101 at hT ⊢
       rw [hF] at hT
       exact hT
 · have hge : ¬ i < ((b2.getD ((Z5 a1 b1 b2 b3 b4).toNat) default).nodes).length := by simpa using h0
   have hd : ((b2.getD ((Z5 a1 b1 b2 b3 b4).toNat) default).nodes).drop i = [] := List.drop_eq_nil_of_le (by omega)
   have hF : Z91 a2 (((b2.getD ((Z5 a1 b1 b2 b3 b4).toNat) default).nodes).drop i) = false := by rw [hd]; first | exact rfl | simp only [Z91, h0, cond_true, cond_false]
   unfold Z101 at hT
   rw [hF] at hT
   exact hT.2 rfl
def Z7a (a1 : BA) (a2 : BA) (a3 : Int) (b1 : LZ) (b2 : LV) (b3 : LS) (b4 : LQ) : Int × LV :=
 cond (decide ((Z5 a1 b1 b2 b3 b4) < (0 : Int)))
   ((5 : Int), b2)
   (cond (Z91 a2 ((b2.getD ((Z5 a1 b1 b2 b3 b4).toNat) default).nodes))
     ((0 : Int), (b2.set ((Z5 a1 b1 b2 b3 b4).toNat) (⟨(b2.getD ((Z5 a1 b1 b2 b3 b4).toNat) default).name, ((b2.getD ((Z5 a1 b1 b2 b3 b4).toNat) default).size), (b2.getD ((Z5 a1 b1 b2 b3 b4).toNat) default).zone, a3, (b2.getD ((Z5 a1 b1 b2 b3 b4).toNat) default).nodes⟩ : XVol)))
     ((10 : Int), b2))
def rD_PutR (a1 : BA) (a2 : BA) (a3 : Int) (b1 : LZ) (b2 : LV) (b3 : LS) (b4 : LQ) : RT :=
 (.ask false
   .fail
   (.need [b1.length ≤ 1000, b2.length ≤ 1000, b3.length ≤ 1000, b4.length ≤ 1000]
     (.ask (decide ((Z5 a1 b1 b2 b3 b4) < (0 : Int)))
       (.leaf .ret ⟨Za 52 [(8, .int .i64 5)], (.cells 111 [.vec 1, .vec 2, .vec 3, .vec 4] :: oV b1 b2 b3 b4 [])⟩ [])
       (.need [0 ≤ (Z5 a1 b1 b2 b3 b4) ∧ (Z5 a1 b1 b2 b3 b4) < (b2.length : Int)]
         (.ask (Z91 a2 ((b2.getD ((Z5 a1 b1 b2 b3 b4).toNat) default).nodes))
           (.leaf .ret ⟨Za 52 [(8, .int .i64 (0 : Int))], (.cells 111 [.vec 1, .vec 2, .vec 3, .vec 4] :: oV b1 (b2.set ((Z5 a1 b1 b2 b3 b4).toNat) (⟨(b2.getD ((Z5 a1 b1 b2 b3 b4).toNat) default).name, ((b2.getD ((Z5 a1 b1 b2 b3 b4).toNat) default).size), (b2.getD ((Z5 a1 b1 b2 b3 b4).toNat) default).zone, a3, (b2.getD ((Z5 a1 b1 b2 b3 b4).toNat) default).nodes⟩ : XVol)) b3 b4 [])⟩ [])
           (.leaf .ret ⟨Za 52 [(8, .int .i64 10)], (.cells 111 [.vec 1, .vec 2, .vec 3, .vec 4] :: oV b1 b2 b3 b4 [])⟩ []))))))
theorem rD_PutF_tr (a1 : BA) (a2 : BA) (a3 : Int) (b1 : LZ) (b2 : LV) (b3 : LS) (b4 : LQ) (hp0 : b1.length ≤ 1000) (hp1 : b2.length ≤ 1000) (hp2 : b3.length ≤ 1000) (hp3 : b4.length ≤ 1000) (hp4 : ∀ v ∈ b2, v.nodes.length ≤ 1000) : Tr Tryz.prog 5 (Z3c Tryz.f57) (Z27 Tryz.f57 [.ptr 0 0, .str a1, .str a2, .int .u64 a3] (.cells 111 [.vec 1, .vec 2, .vec 3, .vec 4] :: oV b1 b2 b3 b4 [])) (Z48 Tryz.prog Tryz.f57 (.int .i64 ((Z7a a1 a2 a3 b1 b2 b3 b4).1)) (.cells 111 [.vec 1, .vec 2, .vec 3, .vec 4] :: oV b1 ((Z7a a1 a2 a3 b1 b2 b3 b4).2) b3 b4 [])) := by
 refine Z2f (kok _ _ _ _ _ _) (E := E_rD_Put) (L := (Z5f [(0, Z1df a1 a2 a3 b1 b2 b3 b4 0, [], .need [0 ≤ (Z5 a1 b1 b2 b3 b4) ∧ (Z5 a1 b1 b2 b3 b4) < (b2.length : Int)] (Z101 a1 a2 a3 b1 b2 b3 b4 0))])) 60 9999 (Z14.one (g := Z47 Tryz.f57 0) (b := 0) (by kernel_rfl) (by kernel_rfl) (by kernel_rfl) (by kernel_rfl) (fun Q h => rD_PutL_loop a1 a2 a3 b1 b2 b3 b4 hp0 hp1 hp2 hp3 hp4 (by first | (have h9 := hn0; have h8 := hp4 _ (Zf4 h9.1 h9.2); omega) | (have h9 := h.1 _ mS; have h8 := hp4 _ (Zf4 h9.1 h9.2); omega)) (h.1 _ mS) ⟨0, by first | exact Nat.zero_le _ | (show 0 ≤ ((b2.getD ((Z5 a1 b1 b2 b3 b4).toNat) default).nodes).length; omega) | (show 0 ≤ ((b2.getD ((Z5 a1 b1 b2 b3 b4).toNat) default).nodes).length; exact ⟨Nat.zero_le _, by assumption⟩) | (show 0 ≤ ((b2.getD ((Z5 a1 b1 b2 b3 b4).toNat) default).nodes).length; simp)⟩ Q h.2)) (rD_PutR a1 a2 a3 b1 b2 b3 b4) (by kernel_rfl) (by kernel_rfl) (by kernel_rfl) ?_
 unfold rD_PutR
 refine ⟨fun h0 => ?_, fun h0 => ?_⟩
 · exact absurd h0 (by simp)
 · refine ⟨(by (iterate 4 refine Z2 (by omega) ?_); exact Z9), ?_⟩
   refine ⟨fun h1 => ?_, fun h1 => ?_⟩
   · have hF : Z7a a1 a2 a3 b1 b2 b3 b4 = ((5 : Int), b2) := by first | exact (Z12 h1 rfl) | simp only [Z7a, h0, h1, cond_true, cond_false]
     exact ⟨trivial, .inl (by (try rw [hF]); kernel_rfl), by (try rw [hF]); kernel_rfl⟩
   · refine ⟨Z2 (by (try have hv1 := Z20b a1 b1 b2 b3 b4); (try have hv2 := Zcc a1 b1 b2 b3 b4); (try have hv3 := Z1ea a1 a2 b1 b2 b3 b4); (try have hv4 := Z18a a1 b1 b2 b3 b4); (try simp only [decide_eq_true_eq, decide_eq_false_iff_not] at *); omega) (Z9), ?_⟩
     refine ⟨fun h2 => ?_, fun h2 => ?_⟩
     · have hF : Z7a a1 a2 a3 b1 b2 b3 b4 = ((0 : Int), (b2.set ((Z5 a1 b1 b2 b3 b4).toNat) (⟨(b2.getD ((Z5 a1 b1 b2 b3 b4).toNat) default).name, ((b2.getD ((Z5 a1 b1 b2 b3 b4).toNat) default).size), (b2.getD ((Z5 a1 b1 b2 b3 b4).toNat) default).zone, a3, (b2.getD ((Z5 a1 b1 b2 b3 b4).toNat) default).nodes⟩ : XVol))) := by first | exact (Z3 h1 (Z12 h2 rfl)) | simp only [Z7a, h0, h1, h2, cond_true, cond_false]
       exact ⟨trivial, .inl (by (try rw [hF]); kernel_rfl), by (try rw [hF]); kernel_rfl⟩
     · have hF : Z7a a1 a2 a3 b1 b2 b3 b4 = ((10 : Int), b2) := by first | exact (Z3 h1 (Z3 h2 rfl)) | simp only [Z7a, h0, h1, h2, cond_true, cond_false]
       exact ⟨trivial, .inl (by (try rw [hF]); kernel_rfl), by (try rw [hF]); kernel_rfl⟩
noncomputable def rD_Put_fact0 : Fact Tryz.prog := Z4b 57 Tryz.f57 (by kernel_rfl) rfl (by kernel_rfl) [.c (.ptr 0 0), .c (.str), .c (.str), .c (.int .u64)] [.cells 111 [.vec 1, .vec 2, .vec 3, .vec 4], .vec false .zone, .vec false .vol, .vec false .snap, .vec false .done] false (fun t u => .int .i64 ((Z7a t.2.1 t.2.2.1 t.2.2.2.1 u.2.1 u.2.2.1 u.2.2.2.1 u.2.2.2.2.1).1)) (fun t u => (.cells 111 [.vec 1, .vec 2, .vec 3, .vec 4] :: oV (u.2.1) ((Z7a t.2.1 t.2.2.1 t.2.2.2.1 u.2.1 u.2.2.1 u.2.2.2.1 u.2.2.2.2.1).2) (u.2.2.2.1) (u.2.2.2.2.1) [])) (fun t u => [u.2.1.length ≤ 1000, u.2.2.1.length ≤ 1000, u.2.2.2.1.length ≤ 1000, u.2.2.2.2.1.length ≤ 1000, ∀ v ∈ u.2.2.1, v.nodes.length ≤ 1000])
 (nofun) (fun t u => by kernel_rfl) (fun t u => by kernel_rfl) (fun t u h => rD_PutF_tr t.2.1 t.2.2.1 t.2.2.2.1 u.2.1 u.2.2.1 u.2.2.2.1 u.2.2.2.2.1 (h _ mS) (h _ (mN mS)) (h _ (mN (mN mS))) (h _ (mN (mN (mN mS)))) (h _ (mN (mN (mN (mN mS))))))
noncomputable def rD_Put_fact : Fact Tryz.prog := Z8c rD_Put_fact0 [.c (.ptr 0 0), .c (.str), .c (.str), .c (.int .u64)] [.cells 111 [.vec 1, .vec 2, .vec 3, .vec 4], .vec false .zone, .vec false .vol, .vec false .snap, .vec false .done] (fun t u => .int .i64 ((Z7a t.2.1 t.2.2.1 t.2.2.2.1 u.2.1 u.2.2.1 u.2.2.2.1 u.2.2.2.2.1).1)) (fun t u => (.cells 111 [.vec 1, .vec 2, .vec 3, .vec 4] :: oV (u.2.1) ((Z7a t.2.1 t.2.2.1 t.2.2.2.1 u.2.1 u.2.2.1 u.2.2.2.1 u.2.2.2.2.1).2) (u.2.2.2.1) (u.2.2.2.2.1) [])) (fun t u => [u.2.1.length ≤ 1000, u.2.2.1.length ≤ 1000, u.2.2.2.1.length ≤ 1000, u.2.2.2.2.1.length ≤ 1000, ∀ v ∈ u.2.2.1, v.nodes.length ≤ 1000]) rfl [0, 1, 3, 4] (by
 intro t u k hk
 simp only [List.mem_cons, List.not_mem_nil, or_false] at hk
 rcases hk with rfl | rfl | rfl | rfl
 all_goals exact ⟨by decide, rfl⟩)
noncomputable def E_rD_Room : Env := Z65 (P := Tryz.prog) [Z161] [] [] ckf true
def Z269 (a1 : BA) (b1 : LZ) (b2 : LV) (b3 : LS) (b4 : LQ) : Int × Bool :=
 cond (decide ((Z16 a1 b1 b2 b3 b4) < (0 : Int)))
  ((0 : Int), false)
  (((b1.getD ((Z16 a1 b1 b2 b3 b4).toNat) default).room), true)
def rD_RoomR (a1 : BA) (b1 : LZ) (b2 : LV) (b3 : LS) (b4 : LQ) : RT :=
 (.need [b1.length ≤ 1000, b2.length ≤ 1000, b3.length ≤ 1000, b4.length ≤ 1000]
   (.ask (decide ((Z16 a1 b1 b2 b3 b4) < (0 : Int)))
     (.leaf .ret ⟨Za 20 [(4, .int .i64 0), (5, .bool false)], (.cells 111 [.vec 1, .vec 2, .vec 3, .vec 4] :: oV b1 b2 b3 b4 [])⟩ [])
     (.need [0 ≤ (Z16 a1 b1 b2 b3 b4) ∧ (Z16 a1 b1 b2 b3 b4) < (b1.length : Int)]
       (.leaf .ret ⟨Za 20 [(4, .int .i64 ((b1.getD ((Z16 a1 b1 b2 b3 b4).toNat) default).room)), (5, .bool true)], (.cells 111 [.vec 1, .vec 2, .vec 3, .vec 4] :: oV b1 b2 b3 b4 [])⟩ []))))
theorem rD_RoomF_tr (a1 : BA) (b1 : LZ) (b2 : LV) (b3 : LS) (b4 : LQ) (hp0 : b1.length ≤ 1000) (hp1 : b2.length ≤ 1000) (hp2 : b3.length ≤ 1000) (hp3 : b4.length ≤ 1000) : Tr Tryz.prog 5 (Z3c Tryz.f59) (Z27 Tryz.f59 [.ptr 0 0, .str a1] (.cells 111 [.vec 1, .vec 2, .vec 3, .vec 4] :: oV b1 b2 b3 b4 [])) (Z48 Tryz.prog Tryz.f59 (.tup [.int .i64 ((Z269 a1 b1 b2 b3 b4).1), .bool ((Z269 a1 b1 b2 b3 b4).2)]) (.cells 111 [.vec 1, .vec 2, .vec 3, .vec 4] :: oV b1 b2 b3 b4 [])) := by
 refine Z2f (kok _ _ _ _ _ _) (E := E_rD_Room) (L := Z32) 60 9999 Z14.none (rD_RoomR a1 b1 b2 b3 b4) (by kernel_rfl) (by kernel_rfl) (by kernel_rfl) ?_
 unfold rD_RoomR
 refine ⟨(by (iterate 4 refine Z2 (by omega) ?_); exact Z9), ?_⟩
 refine ⟨fun h0 => ?_, fun h0 => ?_⟩
 · have hF : Z269 a1 b1 b2 b3 b4 = ((0 : Int), false) := by first | exact (Z12 h0 rfl) | simp only [Z269, h0, cond_true, cond_false]
   exact ⟨trivial, .inl (by (try rw [hF]); kernel_rfl), by (try rw [hF]); kernel_rfl⟩
 · refine ⟨Z2 (by (try have hv1 := Z20b a1 b1 b2 b3 b4); (try have hv2 := Zcc a1 b1 b2 b3 b4); (try have hv3 := Z1ea a1 a2 b1 b2 b3 b4); (try have hv4 := Z18a a1 b1 b2 b3 b4); (try simp only [decide_eq_true_eq, decide_eq_false_iff_not] at *); omega) (Z9), ?_⟩
   have hF : Z269 a1 b1 b2 b3 b4 = (((b1.getD ((Z16 a1 b1 b2 b3 b4).toNat) default).room), true) := by first | exact (Z3 h0 rfl) | simp only [Z269, h0, cond_true, cond_false]
   exact ⟨trivial, .inl (by (try rw [hF]); kernel_rfl), by (try rw [hF]); kernel_rfl⟩
noncomputable def rD_Room_fact : Fact Tryz.prog := Z4b 59 Tryz.f59 (by kernel_rfl) rfl (by kernel_rfl) [.c (.ptr 0 0), .c (.str)] [.cells 111 [.vec 1, .vec 2, .vec 3, .vec 4], .vec false .zone, .vec false .vol, .vec false .snap, .vec false .done] true (fun t u => .tup [.int .i64 ((Z269 t.2.1 u.2.1 u.2.2.1 u.2.2.2.1 u.2.2.2.2.1).1), .bool ((Z269 t.2.1 u.2.1 u.2.2.1 u.2.2.2.1 u.2.2.2.2.1).2)]) (fun t u => HPL.enc _ u) (fun t u => [u.2.1.length ≤ 1000, u.2.2.1.length ≤ 1000, u.2.2.2.1.length ≤ 1000, u.2.2.2.2.1.length ≤ 1000])
 (fun _ _ _ => rfl) (fun t u => by kernel_rfl) (fun t u => by kernel_rfl) (fun t u h => rD_RoomF_tr t.2.1 u.2.1 u.2.2.1 u.2.2.2.1 u.2.2.2.2.1 (h _ mS) (h _ (mN mS)) (h _ (mN (mN mS))) (h _ (mN (mN (mN mS)))))
end Go.Proofs.YtkledlcmhbjadaaGreat
