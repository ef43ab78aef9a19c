/- The document's driver: growing, cutting. -/
import Derived.Test.YtkledlcmhbjadaaGreatDH1
set_option linter.unusedVariables false
set_option linter.unusedSimpArgs false
set_option maxRecDepth 100000
namespace Go.Proofs.YtkledlcmhbjadaaGreat
open Go Go.Eng
noncomputable def E_r10_failed : Env := Z65 (P := Tryz.prog) [] [] [] ckf
def Z8 (a0 : Int) : XRes :=
 (⟨a0, (0 : Int), (⟨#[]⟩ : BA), (0 : Int)⟩ : XRes)
def r10_failedR (a0 : Int) : RT :=
 (.leaf .ret ⟨Za 5 [(2, .ptr 0 0)], [.cells 52 [.int .i64 a0, .int .i64 0, .str (⟨#[]⟩ : BA), .int .u64 0]]⟩ [])
theorem r10_failedF_tr (a0 : Int)  : Tr Tryz.prog 0 (Z3c Tryz.f84) (Z27 Tryz.f84 [.int .i64 a0] []) (Z48 Tryz.prog Tryz.f84 (.agg [.int .i64 ((Z8 a0).err), .int .i64 ((Z8 a0).size), .str ((Z8 a0).zone), .int .u64 ((Z8 a0).tag)]) []) := by
 refine Z2f (kok _ _ _ _ _ _) (E := E_r10_failed) (L := Z32) 60 9999 Z14.none (r10_failedR a0) (by kernel_rfl) (by kernel_rfl) (by kernel_rfl) ?_
 unfold r10_failedR
 exact ⟨trivial, .inl (by kernel_rfl), by kernel_rfl⟩
noncomputable def Zba : Fact Tryz.prog := Z4b 84 Tryz.f84 (by kernel_rfl) rfl (by kernel_rfl) [.c (.int .i64)] [] true (fun t u => .agg [.int .i64 ((Z8 t.1).err), .int .i64 ((Z8 t.1).size), .str ((Z8 t.1).zone), .int .u64 ((Z8 t.1).tag)]) (fun t u => []) (fun t u => [])
 (fun _ _ _ => rfl) (fun t u => by kernel_rfl) (fun t u => by kernel_rfl) (fun t u h => r10_failedF_tr t.1 )
noncomputable def E_rD_expand : Env := Z65 (P := Tryz.prog) [Zba, Z161] [] [] ckf true
def Z20 (a1 : Int) (a2 : XCall) (b1 : LZ) (b2 : LV) (b3 : LS) (b4 : LQ) : XRes × LZ × LV :=
 cond (decide (a1 < (0 : Int)))
  ((Z8 (5 : Int)), b1, b2)
  (cond (decide (((b2.getD a1.toNat default).size) ≥ a2.size))
    ((⟨(0 : Int), ((b2.getD a1.toNat default).size), (⟨#[]⟩ : BA), (0 : Int)⟩ : XRes), b1, b2)
    (cond (decide (((b1.getD ((Z16 ((b2.getD a1.toNat default).zone) b1 b2 b3 b4).toNat) default).room) < (IntKind.i64.wrap (a2.size - ((b2.getD a1.toNat default).size)))))
      ((Z8 (11 : Int)), b1, b2)
      ((⟨(0 : Int), a2.size, (⟨#[]⟩ : BA), (0 : Int)⟩ : XRes), (b1.set ((Z16 ((b2.getD a1.toNat default).zone) b1 b2 b3 b4).toNat) (⟨(b1.getD ((Z16 ((b2.getD a1.toNat default).zone) b1 b2 b3 b4).toNat) default).name, (IntKind.i64.wrap (((b1.getD ((Z16 ((b2.getD a1.toNat default).zone) b1 b2 b3 b4).toNat) default).room) - (IntKind.i64.wrap (a2.size - ((b2.getD a1.toNat default).size)))))⟩ : XZone)), (b2.set a1.toNat (⟨(b2.getD a1.toNat default).name, a2.size, (b2.getD a1.toNat default).zone, ((b2.getD a1.toNat default).tag), (b2.getD a1.toNat default).nodes⟩ : XVol)))))
def rD_expandR (a1 : Int) (a2 : XCall) (b1 : LZ) (b2 : LV) (b3 : LS) (b4 : LQ) : RT :=
 (.ask (decide (a1 < (0 : Int)))
   (.leaf .ret ⟨Za 96 [(6, .ptr 5 0)], (.cells 111 [.vec 1, .vec 2, .vec 3, .vec 4] :: oV b1 b2 b3 b4 [.cells 52 [.int .i64 ((Z8 (5 : Int)).err), .int .i64 ((Z8 (5 : Int)).size), .str ((Z8 (5 : Int)).zone), .int .u64 ((Z8 (5 : Int)).tag)]])⟩ [0, 1, 2, 3, 4, 6])
   (.need [0 ≤ a1 ∧ a1 < (b2.length : Int)]
     (.ask (decide (((b2.getD a1.toNat default).size) ≥ a2.size))
       (.need [0 ≤ a1 ∧ a1 < (b2.length : Int)]
         (.leaf .ret ⟨Za 96 [(6, .ptr 5 0)], (.cells 111 [.vec 1, .vec 2, .vec 3, .vec 4] :: oV b1 b2 b3 b4 [.cells 52 [.int .i64 0, .int .i64 ((b2.getD a1.toNat default).size), .str (⟨#[]⟩ : BA), .int .u64 0]])⟩ [0, 1, 2, 3, 4, 6]))
       (.need [0 ≤ a1 ∧ a1 < (b2.length : Int)]
         (.need [b1.length ≤ 1000, b2.length ≤ 1000, b3.length ≤ 1000, b4.length ≤ 1000]
           (.need [0 ≤ (Z16 ((b2.getD a1.toNat default).zone) b1 b2 b3 b4) ∧ (Z16 ((b2.getD a1.toNat default).zone) b1 b2 b3 b4) < (b1.length : Int), 0 ≤ a1 ∧ a1 < (b2.length : Int)]
             (.ask (decide (((b1.getD ((Z16 ((b2.getD a1.toNat default).zone) b1 b2 b3 b4).toNat) default).room) < (IntKind.i64.wrap (a2.size - ((b2.getD a1.toNat default).size)))))
               (.leaf .ret ⟨Za 96 [(6, .ptr 5 0)], (.cells 111 [.vec 1, .vec 2, .vec 3, .vec 4] :: oV b1 b2 b3 b4 [.cells 52 [.int .i64 ((Z8 (11 : Int)).err), .int .i64 ((Z8 (11 : Int)).size), .str ((Z8 (11 : Int)).zone), .int .u64 ((Z8 (11 : Int)).tag)]])⟩ [0, 1, 2, 3, 4, 6])
               (.need [0 ≤ (Z16 ((b2.getD a1.toNat default).zone) b1 b2 b3 b4) ∧ (Z16 ((b2.getD a1.toNat default).zone) b1 b2 b3 b4) < (b1.length : Int), 0 ≤ a1 ∧ a1 < (b2.length : Int), 0 ≤ (Z16 ((b2.getD a1.toNat default).zone) b1 b2 b3 b4) ∧ (Z16 ((b2.getD a1.toNat default).zone) b1 b2 b3 b4) < (b1.length : Int)]
                 (.need [0 ≤ a1 ∧ a1 < (b2.length : Int)]
                   (.leaf .ret ⟨Za 96 [(6, .ptr 5 0)], (.cells 111 [.vec 1, .vec 2, .vec 3, .vec 4] :: oV (b1.set ((Z16 ((b2.getD a1.toNat default).zone) b1 b2 b3 b4).toNat) (⟨(b1.getD ((Z16 ((b2.getD a1.toNat default).zone) b1 b2 b3 b4).toNat) default).name, (IntKind.i64.wrap (((b1.getD ((Z16 ((b2.getD a1.toNat default).zone) b1 b2 b3 b4).toNat) default).room) - (IntKind.i64.wrap (a2.size - ((b2.getD a1.toNat default).size)))))⟩ : XZone)) (b2.set a1.toNat (⟨(b2.getD a1.toNat default).name, a2.size, (b2.getD a1.toNat default).zone, ((b2.getD a1.toNat default).tag), (b2.getD a1.toNat default).nodes⟩ : XVol)) b3 b4 [.cells 52 [.int .i64 0, .int .i64 a2.size, .str (⟨#[]⟩ : BA), .int .u64 0]])⟩ [0, 1, 2, 3, 4, 6]))))))))))
theorem rD_expandF_tr (a1 : Int) (a2 : XCall) (b1 : LZ) (b2 : LV) (b3 : LS) (b4 : LQ) (hp0 : b1.length ≤ 1000) (hp1 : b2.length ≤ 1000) (hp2 : b3.length ≤ 1000) (hp3 : b4.length ≤ 1000) (hp4 : ∀ v ∈ b2, v.nodes.length ≤ 1000) (hp5 : ∀ v ∈ b2, ZHas b1 v.zone) (hp6 : a1 < (b2.length : Int)) : Tr Tryz.prog 5 (Z3c Tryz.f87) (Z27 Tryz.f87 [.ptr 0 0, .int .i64 a1, .agg (cc a2)] (.cells 111 [.vec 1, .vec 2, .vec 3, .vec 4] :: oV b1 b2 b3 b4 [])) (Z48 Tryz.prog Tryz.f87 (.agg [.int .i64 (((Z20 a1 a2 b1 b2 b3 b4).1).err), .int .i64 (((Z20 a1 a2 b1 b2 b3 b4).1).size), .str (((Z20 a1 a2 b1 b2 b3 b4).1).zone), .int .u64 (((Z20 a1 a2 b1 b2 b3 b4).1).tag)]) (.cells 111 [.vec 1, .vec 2, .vec 3, .vec 4] :: oV ((Z20 a1 a2 b1 b2 b3 b4).2.1) ((Z20 a1 a2 b1 b2 b3 b4).2.2) b3 b4 [])) := by
 refine Z2f (kok _ _ _ _ _ _) (E := E_rD_expand) (L := Z32) 60 9999 Z14.none (rD_expandR a1 a2 b1 b2 b3 b4) (by kernel_rfl) (by kernel_rfl) (by kernel_rfl) ?_
 unfold rD_expandR
 refine ⟨fun h0 => ?_, fun h0 => ?_⟩
 · have hF : Z20 a1 a2 b1 b2 b3 b4 = ((Z8 (5 : Int)), b1, b2) := by first | exact (Z12 h0 rfl) | simp only [Z20, h0, cond_true, cond_false]
   exact ⟨trivial, .inl (by (try rw [hF]); kernel_rfl), by (try rw [hF]); kernel_rfl⟩
 · refine ⟨Z2 (by (try refine fun (_ : _ = _) => ?_); (have h9 := h0; simp only [decide_eq_false_iff_not] at h9; omega)) (Z9), ?_⟩
   refine ⟨fun h1 => ?_, fun h1 => ?_⟩
   · refine ⟨Z2 (by (try refine fun (_ : _ = _) => ?_); (have h9 := h0; simp only [decide_eq_false_iff_not] at h9; omega)) (Z9), ?_⟩
     have hF : Z20 a1 a2 b1 b2 b3 b4 = ((⟨(0 : Int), ((b2.getD a1.toNat default).size), (⟨#[]⟩ : BA), (0 : Int)⟩ : XRes), b1, b2) := by first | exact (Z3 h0 (Z12 h1 rfl)) | simp only [Z20, h0, h1, cond_true, cond_false]
     exact ⟨trivial, .inl (by (try rw [hF]); kernel_rfl), by (try rw [hF]); kernel_rfl⟩
   · refine ⟨Z2 (by (try refine fun (_ : _ = _) => ?_); (have h9 := h0; simp only [decide_eq_false_iff_not] at h9; omega)) (Z9), ?_⟩
     refine ⟨(by (iterate 4 refine Z2 (by first | assumption | omega | ((try intro _); (try simp only [decide_eq_true_eq, decide_eq_false_iff_not, Bool.cond_false_right, Bool.cond_true_right, Bool.cond_true_left, Bool.cond_false_left, Bool.and_eq_true, Bool.or_eq_true, Bool.not_eq_true', Z18, maxLen, List.length_cons, List.length_nil, List.length_append, Z44] at *); omega)) ?_); exact Z9), ?_⟩
     refine ⟨Z2 (by (try refine fun (_ : _ = _) => ?_); exact ⟨Z1cc (hp5 _ (Zf4 (by have h9 := h0; simp only [decide_eq_false_iff_not] at h9; omega) hp6)) _ _ _, (Zcc _ _ _ _ _).2⟩) (Z2 (by (try refine fun (_ : _ = _) => ?_); (have h9 := h0; simp only [decide_eq_false_iff_not] at h9; omega)) (Z9)), ?_⟩
     refine ⟨fun h2 => ?_, fun h2 => ?_⟩
     · have hF : Z20 a1 a2 b1 b2 b3 b4 = ((Z8 (11 : Int)), b1, b2) := by first | exact (Z3 h0 (Z3 h1 (Z12 h2 rfl))) | simp only [Z20, h0, h1, h2, cond_true, cond_false]
       exact ⟨trivial, .inl (by (try rw [hF]); kernel_rfl), by (try rw [hF]); kernel_rfl⟩
     · refine ⟨Z2 (by (try refine fun (_ : _ = _) => ?_); exact ⟨Z1cc (hp5 _ (Zf4 (by have h9 := h0; simp only [decide_eq_false_iff_not] at h9; omega) hp6)) _ _ _, (Zcc _ _ _ _ _).2⟩) (Z2 (by (try refine fun (_ : _ = _) => ?_); (have h9 := h0; simp only [decide_eq_false_iff_not] at h9; omega)) (Z2 (by (try refine fun (_ : _ = _) => ?_); exact ⟨Z1cc (hp5 _ (Zf4 (by have h9 := h0; simp only [decide_eq_false_iff_not] at h9; omega) hp6)) _ _ _, (Zcc _ _ _ _ _).2⟩) (Z9))), ?_⟩
       refine ⟨Z2 (by (try refine fun (_ : _ = _) => ?_); (have h9 := h0; simp only [decide_eq_false_iff_not] at h9; omega)) (Z9), ?_⟩
       have hF : Z20 a1 a2 b1 b2 b3 b4 = ((⟨(0 : Int), a2.size, (⟨#[]⟩ : BA), (0 : Int)⟩ : XRes), (b1.set ((Z16 ((b2.getD a1.toNat default).zone) b1 b2 b3 b4).toNat) (⟨(b1.getD ((Z16 ((b2.getD a1.toNat default).zone) b1 b2 b3 b4).toNat) default).name, (IntKind.i64.wrap (((b1.getD ((Z16 ((b2.getD a1.toNat default).zone) b1 b2 b3 b4).toNat) default).room) - (IntKind.i64.wrap (a2.size - ((b2.getD a1.toNat default).size)))))⟩ : XZone)), (b2.set a1.toNat (⟨(b2.getD a1.toNat default).name, a2.size, (b2.getD a1.toNat default).zone, ((b2.getD a1.toNat default).tag), (b2.getD a1.toNat default).nodes⟩ : XVol))) := by first | exact (Z3 h0 (Z3 h1 (Z3 h2 rfl))) | simp only [Z20, h0, h1, h2, cond_true, cond_false]
       exact ⟨trivial, .inl (by (try rw [hF]); kernel_rfl), by (try rw [hF]); kernel_rfl⟩
noncomputable def rD_expand_fact0 : Fact Tryz.prog := Z4b 87 Tryz.f87 (by kernel_rfl) rfl (by kernel_rfl) [.c (.ptr 0 0), .c (.int .i64), .st .call] [.cells 111 [.vec 1, .vec 2, .vec 3, .vec 4], .vec false .zone, .vec false .vol, .vec false .snap, .vec false .done] false (fun t u => .agg [.int .i64 (((Z20 t.2.1 t.2.2.1 u.2.1 u.2.2.1 u.2.2.2.1 u.2.2.2.2.1).1).err), .int .i64 (((Z20 t.2.1 t.2.2.1 u.2.1 u.2.2.1 u.2.2.2.1 u.2.2.2.2.1).1).size), .str (((Z20 t.2.1 t.2.2.1 u.2.1 u.2.2.1 u.2.2.2.1 u.2.2.2.2.1).1).zone), .int .u64 (((Z20 t.2.1 t.2.2.1 u.2.1 u.2.2.1 u.2.2.2.1 u.2.2.2.2.1).1).tag)]) (fun t u => (.cells 111 [.vec 1, .vec 2, .vec 3, .vec 4] :: oV ((Z20 t.2.1 t.2.2.1 u.2.1 u.2.2.1 u.2.2.2.1 u.2.2.2.2.1).2.1) ((Z20 t.2.1 t.2.2.1 u.2.1 u.2.2.1 u.2.2.2.1 u.2.2.2.2.1).2.2) (u.2.2.2.1) (u.2.2.2.2.1) [])) (fun t u => [u.2.1.length ≤ 1000, u.2.2.1.length ≤ 1000, u.2.2.2.1.length ≤ 1000, u.2.2.2.2.1.length ≤ 1000, ∀ v ∈ u.2.2.1, v.nodes.length ≤ 1000, ∀ v ∈ u.2.2.1, ZHas u.2.1 v.zone, t.2.1 < (u.2.2.1.length : Int)])
 (nofun) (fun t u => by kernel_rfl) (fun t u => by kernel_rfl) (fun t u h => rD_expandF_tr t.2.1 t.2.2.1 u.2.1 u.2.2.1 u.2.2.2.1 u.2.2.2.2.1 (h _ mS) (h _ (mN mS)) (h _ (mN (mN mS))) (h _ (mN (mN (mN mS)))) (h _ (mN (mN (mN (mN mS))))) (h _ (mN (mN (mN (mN (mN mS)))))) (h _ (mN (mN (mN (mN (mN (mN mS))))))))
noncomputable def rD_expand_fact : Fact Tryz.prog := Z8c rD_expand_fact0 [.c (.ptr 0 0), .c (.int .i64), .st .call] [.cells 111 [.vec 1, .vec 2, .vec 3, .vec 4], .vec false .zone, .vec false .vol, .vec false .snap, .vec false .done] (fun t u => .agg [.int .i64 (((Z20 t.2.1 t.2.2.1 u.2.1 u.2.2.1 u.2.2.2.1 u.2.2.2.2.1).1).err), .int .i64 (((Z20 t.2.1 t.2.2.1 u.2.1 u.2.2.1 u.2.2.2.1 u.2.2.2.2.1).1).size), .str (((Z20 t.2.1 t.2.2.1 u.2.1 u.2.2.1 u.2.2.2.1 u.2.2.2.2.1).1).zone), .int .u64 (((Z20 t.2.1 t.2.2.1 u.2.1 u.2.2.1 u.2.2.2.1 u.2.2.2.2.1).1).tag)]) (fun t u => (.cells 111 [.vec 1, .vec 2, .vec 3, .vec 4] :: oV ((Z20 t.2.1 t.2.2.1 u.2.1 u.2.2.1 u.2.2.2.1 u.2.2.2.2.1).2.1) ((Z20 t.2.1 t.2.2.1 u.2.1 u.2.2.1 u.2.2.2.1 u.2.2.2.2.1).2.2) (u.2.2.2.1) (u.2.2.2.2.1) [])) (fun t u => [u.2.1.length ≤ 1000, u.2.2.1.length ≤ 1000, u.2.2.2.1.length ≤ 1000, u.2.2.2.2.1.length ≤ 1000, ∀ v ∈ u.2.2.1, v.nodes.length ≤ 1000, ∀ v ∈ u.2.2.1, ZHas u.2.1 v.zone, t.2.1 < (u.2.2.1.length : Int)]) rfl [0, 3, 4] (by
 intro t u k hk
 simp only [List.mem_cons, List.not_mem_nil, or_false] at hk
 rcases hk with rfl | rfl | rfl
 all_goals exact ⟨by decide, rfl⟩)
noncomputable def E_rD_cut : Env := Z65 (P := Tryz.prog) [Z163, Z135, Zba] [] [] ckf true
def Z58 (a1 : XCall) (b1 : LZ) (b2 : LV) (b3 : LS) (b4 : LQ) : LS → Bool → LS → Bool × LS
 | [], v0, v8 => (v0, v8)
 | o :: r, v0, v8 => cond (cond (!v0) (Z46 a1.target (o.name)) false)
  (Z58 a1 b1 b2 b3 b4 r true ((v8 ++ [(⟨a1.target, ((b2.getD ((Z5 a1.source b1 b2 b3 b4).toNat) default).size), ((b2.getD ((Z5 a1.source b1 b2 b3 b4).toNat) default).tag)⟩ : XSnap)]) ++ [o]))
  (Z58 a1 b1 b2 b3 b4 r v0 (v8 ++ [o]))
abbrev kRE0 (b2 : LV) (a1 : XCall) (b1 : LZ) (b3 : LS) (b4 : LQ) := (b2.getD ((Z5 a1.source b1 b2 b3 b4).toNat) default)
def Z136 (a1 : XCall) (b1 : LZ) (b2 : LV) (b3 : LS) (b4 : LQ) (v0 : Bool) (i : Nat) (v8 : LS) : St :=
 ⟨Za 122 [(0, .ptr 0 0), (4, .ptr 5 0), (7, .ptr 6 0), (8, .vec 7), (9, .bool v0), (10, .int .i64 (i : Int))], (.cells 111 [.vec 1, .vec 2, .vec 3, .vec 4] :: oV b1 b2 b3 b4 [.cells 52 [.int .i64 0, .int .i64 0, .str (⟨#[]⟩ : BA), .int .u64 0], .cells 108 [.str a1.target, .int .i64 ((kRE0 b2 a1 b1 b3 b4).size), .int .u64 ((kRE0 b2 a1 b1 b3 b4).tag)], .vec false ⟨.snap, v8⟩])⟩
abbrev kRE1 (a1 : XCall) (b2 : LV) (b1 : LZ) (b3 : LS) (b4 : LQ) := (⟨a1.target, ((kRE0 b2 a1 b1 b3 b4).size), ((kRE0 b2 a1 b1 b3 b4).tag)⟩ : XSnap)
def rD_cutLR (a1 : XCall) (b1 : LZ) (b2 : LV) (b3 : LS) (b4 : LQ) (v0 : Bool) (i : Nat) (v8 : LS) : RT :=
 (.ask (decide ((i : Int) < (b3.length : Int)))
   (.need [((!v0) = true) → (0 ≤ (i : Int) ∧ (i : Int) < (b3.length : Int))]
     (.ask (cond (!v0) (Z46 a1.target ((b3.getD i default).name)) false)
       (.need [(v8.length + [(kRE1 a1 b2 b1 b3 b4)].length) * 32 ≤ Z18 ∧ v8.length + [(kRE1 a1 b2 b1 b3 b4)].length ≤ maxLen]
         (.need [0 ≤ (i : Int) ∧ (i : Int) < (b3.length : Int)]
           (.need [((v8 ++ [(kRE1 a1 b2 b1 b3 b4)]).length + [(b3.getD i default)].length) * 32 ≤ Z18 ∧ (v8 ++ [(kRE1 a1 b2 b1 b3 b4)]).length + [(b3.getD i default)].length ≤ maxLen]
             (.leaf .normal ⟨Za 122 [(0, .ptr 0 0), (4, .ptr 5 0), (7, .ptr 6 0), (8, .vec 7), (9, .bool true), (10, .int .i64 (IntKind.i64.wrap ((i : Int) + (1 : Int))))], (.cells 111 [.vec 1, .vec 2, .vec 3, .vec 4] :: oV b1 b2 b3 b4 [.cells 52 [.int .i64 0, .int .i64 0, .str (⟨#[]⟩ : BA), .int .u64 0], .cells 108 [.str a1.target, .int .i64 ((kRE0 b2 a1 b1 b3 b4).size), .int .u64 ((kRE0 b2 a1 b1 b3 b4).tag)], .vec false ⟨.snap, ((v8 ++ [(kRE1 a1 b2 b1 b3 b4)]) ++ [(b3.getD i default)])⟩])⟩ [0, 1, 2, 3, 4, 5, 6, 11]))))
       (.need [0 ≤ (i : Int) ∧ (i : Int) < (b3.length : Int)]
         (.need [(v8.length + [(b3.getD i default)].length) * 32 ≤ Z18 ∧ v8.length + [(b3.getD i default)].length ≤ maxLen]
           (.leaf .normal ⟨Za 122 [(0, .ptr 0 0), (4, .ptr 5 0), (7, .ptr 6 0), (8, .vec 7), (9, .bool v0), (10, .int .i64 (IntKind.i64.wrap ((i : Int) + (1 : Int))))], (.cells 111 [.vec 1, .vec 2, .vec 3, .vec 4] :: oV b1 b2 b3 b4 [.cells 52 [.int .i64 0, .int .i64 0, .str (⟨#[]⟩ : BA), .int .u64 0], .cells 108 [.str a1.target, .int .i64 ((kRE0 b2 a1 b1 b3 b4).size), .int .u64 ((kRE0 b2 a1 b1 b3 b4).tag)], .vec false ⟨.snap, (v8 ++ [(b3.getD i default)])⟩])⟩ [0, 1, 2, 3, 4, 5, 6, 9])))))
   (.leaf (.exit 1) ⟨Za 122 [(0, .ptr 0 0), (4, .ptr 5 0), (7, .ptr 6 0), (8, .vec 7), (9, .bool v0)], (.cells 111 [.vec 1, .vec 2, .vec 3, .vec 4] :: oV b1 b2 b3 b4 [.cells 52 [.int .i64 0, .int .i64 0, .str (⟨#[]⟩ : BA), .int .u64 0], .cells 108 [.str a1.target, .int .i64 ((kRE0 b2 a1 b1 b3 b4).size), .int .u64 ((kRE0 b2 a1 b1 b3 b4).tag)], .vec false ⟨.snap, v8⟩])⟩ []))
def Ze2 (a1 : XCall) (b1 : LZ) (b2 : LV) (b3 : LS) (b4 : LQ) (v0 : Bool) (i : Nat) (v8 : LS) : Tree :=
 .leaf (.exit 1) ⟨Za 122 [(0, .ptr 0 0), (4, .ptr 5 0), (7, .ptr 6 0), (8, .vec 7), (9, .bool ((Z58 a1 b1 b2 b3 b4 (b3.drop i) v0 v8).1))], (.cells 111 [.vec 1, .vec 2, .vec 3, .vec 4] :: oV b1 b2 b3 b4 [.cells 52 [.int .i64 0, .int .i64 0, .str (⟨#[]⟩ : BA), .int .u64 0], .cells 108 [.str a1.target, .int .i64 ((kRE0 b2 a1 b1 b3 b4).size), .int .u64 ((kRE0 b2 a1 b1 b3 b4).tag)], .vec false ⟨.snap, (Z58 a1 b1 b2 b3 b4 (b3.drop i) v0 v8).2⟩])⟩
theorem rD_cutL_loop (a1 : XCall) (b1 : LZ) (b2 : LV) (b3 : LS) (b4 : LQ) (hp0 : b1.length ≤ 1000) (hp1 : b2.length ≤ 1000) (hp2 : b3.length ≤ 1000) (hp3 : b4.length ≤ 1000) (hp4 : ∀ v ∈ b2, v.nodes.length ≤ 1000) (hp5 : ∀ v ∈ b2, ZHas b1 v.zone) (hlen : b3.length < 4611686018427387904) (z : { z : Bool × Nat × LS // z.2.1 ≤ b3.length ∧ z.2.2.length ≤ 2 * z.2.1 }) (Q : Exit → St → Prop) (h : (Ze2 a1 b1 b2 b3 b4 z.1.1 z.1.2.1 z.1.2.2).All Q) : Tr Tryz.prog 5 (.loop (Z47 Tryz.f88 0)) (Z136 a1 b1 b2 b3 b4 z.1.1 z.1.2.1 z.1.2.2) Q := by
 refine Z60 (kok _ _ _ _ _ _) (E := E_rD_cut) (ι := { z : Bool × Nat × LS // z.2.1 ≤ b3.length ∧ z.2.2.length ≤ 2 * z.2.1 }) 60 1 (fun _ => Z32) (fun z => Z136 a1 b1 b2 b3 b4 z.1.1 z.1.2.1 z.1.2.2) (fun z => Ze2 a1 b1 b2 b3 b4 z.1.1 z.1.2.1 z.1.2.2) (fun z => rD_cutLR a1 b1 b2 b3 b4 z.1.1 z.1.2.1 z.1.2.2) (fun z => b3.length - z.1.2.1) (fun _ => Z14.none) (fun z => by obtain ⟨⟨v0, i, v8⟩, hi⟩ := z; kernel_rfl) (fun z => by obtain ⟨⟨v0, i, v8⟩, hi⟩ := z; kernel_rfl) (fun z => by obtain ⟨⟨v0, i, v8⟩, hi⟩ := z; kernel_rfl) ?_ z Q h
 rintro ⟨⟨v0, i, v8⟩, hi⟩ Q hT
 replace hT : (Ze2 a1 b1 b2 b3 b4 v0 i v8).All Q := hT
 replace hi : i ≤ b3.length ∧ v8.length ≤ 2 * i := hi
 show (rD_cutLR a1 b1 b2 b3 b4 v0 i v8).All _
 unfold rD_cutLR
 refine ⟨fun h0 => ?_, fun h0 => ?_⟩
 · have hlt : i < b3.length := by simpa using h0
   have hd := Z64 hlt
   have hw := Z4e (i := i) (by omega)
   refine ⟨Z2 (by (try refine fun (_ : _ = _) => ?_); first | omega | (constructor <;> omega)) (Z9), ?_⟩
   refine ⟨fun h1 => ?_, fun h1 => ?_⟩
   · refine ⟨Z2 (by (try refine fun (_ : _ = _) => ?_); unfold Z18 maxLen; (try simp only [List.length_append, List.length_cons, List.length_nil, List.length_drop, List.length_take]); omega) (Z9), ?_⟩
     refine ⟨Z2 (by first | omega | (constructor <;> omega)) (Z9), ?_⟩
     refine ⟨Z2 (by (try refine fun (_ : _ = _) => ?_); unfold Z18 maxLen; (try simp only [List.length_append, List.length_cons, List.length_nil, List.length_drop, List.length_take]); omega) (Z9), ?_⟩
     have hF : Z58 a1 b1 b2 b3 b4 (b3.drop i) v0 v8 = Z58 a1 b1 b2 b3 b4 (b3.drop (i + 1)) true ((v8 ++ [(kRE1 a1 b2 b1 b3 b4)]) ++ [(b3.getD i default)]) := by rw [hd]; first | exact (Z12 h1 rfl) | simp only [Z58, h0, h1, cond_true, cond_false]
     refine ⟨⟨(true, (i + 1), ((v8 ++ [(kRE1 a1 b2 b1 b3 b4)]) ++ [(b3.getD i default)])), by (first | dsimp only | skip); constructor <;> (try simp only [List.length_append, List.length_cons, List.length_nil]) <;> omega⟩, by show b3.length - (i + 1) < b3.length - i; omega, ?_, ?_⟩
     · show _ = Z136 a1 b1 b2 b3 b4 true (i + 1) ((v8 ++ [(kRE1 a1 b2 b1 b3 b4)]) ++ [(b3.getD i default)])
       unfold Z136
       simp only [hw]
     · show (Ze2 a1 b1 b2 b3 b4 true (i + 1) ((v8 ++ [(kRE1 a1 b2 b1 b3 b4)]) ++ [(b3.getD i default)])).All Q
       unfold Ze2 at hT ⊢
       rw [hF] at hT
       exact hT
   · refine ⟨Z2 (by first | omega | (constructor <;> omega)) (Z9), ?_⟩
     refine ⟨Z2 (by (try refine fun (_ : _ = _) => ?_); unfold Z18 maxLen; (try simp only [List.length_append, List.length_cons, List.length_nil, List.length_drop, List.length_take]); omega) (Z9), ?_⟩
     have hF : Z58 a1 b1 b2 b3 b4 (b3.drop i) v0 v8 = Z58 a1 b1 b2 b3 b4 (b3.drop (i + 1)) v0 (v8 ++ [(b3.getD i default)]) := by rw [hd]; first | exact (Z3 h1 rfl) | simp only [Z58, h0, h1, cond_true, cond_false]
     refine ⟨⟨(v0, (i + 1), (v8 ++ [(b3.getD i default)])), by (first | dsimp only | skip); constructor <;> (try simp only [List.length_append, List.length_cons, List.length_nil]) <;> omega⟩, by show b3.length - (i + 1) < b3.length - i; omega, ?_, ?_⟩
     · show _ = Z136 a1 b1 b2 b3 b4 v0 (i + 1) (v8 ++ [(b3.getD i default)])
       unfold Z136
       simp only [hw]
     · show (Ze2 a1 b1 b2 b3 b4 v0 (i + 1) (v8 ++ [(b3.getD i default)])).All Q
       unfold Ze2 at hT ⊢
       rw [hF] at hT
       exact hT
 · have hge : ¬ i < b3.length := by simpa using h0
   have hd : b3.drop i = [] := List.drop_eq_nil_of_le (by omega)
   have hF : Z58 a1 b1 b2 b3 b4 (b3.drop i) v0 v8 = (v0, v8) := by rw [hd]; first | exact rfl | simp only [Z58, h0, cond_true, cond_false]
   unfold Ze2 at hT
   rw [hF] at hT
   exact hT
theorem rD_cutL_len (a1 : XCall) (b1 : LZ) (b2 : LV) (b3 : LS) (b4 : LQ) : ∀ (l : LS) (p : Bool) (v : LS), (Z58 a1 b1 b2 b3 b4 l p v).2.length ≤ v.length + 2 * l.length
 | [], p, v => by simp [Z58]
 | o :: r, p, v => by
  unfold Z58
  rw [List.length_cons]
  simp only [Bool.cond_eq_ite]
  repeat' split
  all_goals
   refine Nat.le_trans (rD_cutL_len a1 b1 b2 b3 b4 r _ _) ?_
   (try simp only [List.length_append, List.length_cons, List.length_nil])
   omega
def Z33 (a1 : XCall) (b1 : LZ) (b2 : LV) (b3 : LS) (b4 : LQ) : XRes × LZ × LV × LS × LQ :=
 cond (decide ((Z24 a1.target b1 b2 b3 b4) ≥ (0 : Int)))
  ((⟨(0 : Int), ((b3.getD ((Z24 a1.target b1 b2 b3 b4).toNat) default).size), (⟨#[]⟩ : BA), ((b3.getD ((Z24 a1.target b1 b2 b3 b4).toNat) default).tag)⟩ : XRes), b1, b2, b3, b4)
  (cond (decide ((Z5 a1.source b1 b2 b3 b4) < (0 : Int)))
    ((Z8 (5 : Int)), b1, b2, b3, b4)
    (cond (decide ((b3.length : Int) ≥ (64 : Int)))
      ((Z8 (7 : Int)), b1, b2, b3, b4)
      (cond (!((Z58 a1 b1 b2 b3 b4 b3 false []).1))
        ((⟨(0 : Int), ((b2.getD ((Z5 a1.source b1 b2 b3 b4).toNat) default).size), (⟨#[]⟩ : BA), ((b2.getD ((Z5 a1.source b1 b2 b3 b4).toNat) default).tag)⟩ : XRes), b1, b2, (((Z58 a1 b1 b2 b3 b4 b3 false []).2) ++ [(⟨a1.target, ((b2.getD ((Z5 a1.source b1 b2 b3 b4).toNat) default).size), ((b2.getD ((Z5 a1.source b1 b2 b3 b4).toNat) default).tag)⟩ : XSnap)]), b4)
        ((⟨(0 : Int), ((b2.getD ((Z5 a1.source b1 b2 b3 b4).toNat) default).size), (⟨#[]⟩ : BA), ((b2.getD ((Z5 a1.source b1 b2 b3 b4).toNat) default).tag)⟩ : XRes), b1, b2, (Z58 a1 b1 b2 b3 b4 b3 false []).2, b4))))
def rD_cutR (a1 : XCall) (b1 : LZ) (b2 : LV) (b3 : LS) (b4 : LQ) : RT :=
 (.need [b1.length ≤ 1000, b2.length ≤ 1000, b3.length ≤ 1000, b4.length ≤ 1000]
   (.ask (decide ((Z24 a1.target b1 b2 b3 b4) ≥ (0 : Int)))
     (.need [0 ≤ (Z24 a1.target b1 b2 b3 b4) ∧ (Z24 a1.target b1 b2 b3 b4) < (b3.length : Int), 0 ≤ (Z24 a1.target b1 b2 b3 b4) ∧ (Z24 a1.target b1 b2 b3 b4) < (b3.length : Int)]
       (.leaf .ret ⟨Za 122 [(4, .ptr 5 0)], (.cells 111 [.vec 1, .vec 2, .vec 3, .vec 4] :: oV b1 b2 b3 b4 [.cells 52 [.int .i64 0, .int .i64 ((b3.getD ((Z24 a1.target b1 b2 b3 b4).toNat) default).size), .str (⟨#[]⟩ : BA), .int .u64 ((b3.getD ((Z24 a1.target b1 b2 b3 b4).toNat) default).tag)]])⟩ [0, 1, 2, 3, 4, 6]))
     (.need [b1.length ≤ 1000, b2.length ≤ 1000, b3.length ≤ 1000, b4.length ≤ 1000]
       (.ask (decide ((Z5 a1.source b1 b2 b3 b4) < (0 : Int)))
         (.leaf .ret ⟨Za 122 [(4, .ptr 5 0)], (.cells 111 [.vec 1, .vec 2, .vec 3, .vec 4] :: oV b1 b2 b3 b4 [.cells 52 [.int .i64 ((Z8 (5 : Int)).err), .int .i64 ((Z8 (5 : Int)).size), .str ((Z8 (5 : Int)).zone), .int .u64 ((Z8 (5 : Int)).tag)]])⟩ [0, 1, 2, 3, 4, 6])
         (.ask (decide ((b3.length : Int) ≥ (64 : Int)))
           (.leaf .ret ⟨Za 122 [(4, .ptr 5 0)], (.cells 111 [.vec 1, .vec 2, .vec 3, .vec 4] :: oV b1 b2 b3 b4 [.cells 52 [.int .i64 ((Z8 (7 : Int)).err), .int .i64 ((Z8 (7 : Int)).size), .str ((Z8 (7 : Int)).zone), .int .u64 ((Z8 (7 : Int)).tag)]])⟩ [0, 1, 2, 3, 4, 6])
           (.need [0 ≤ (Z5 a1.source b1 b2 b3 b4) ∧ (Z5 a1.source b1 b2 b3 b4) < (b2.length : Int), 0 ≤ (Z5 a1.source b1 b2 b3 b4) ∧ (Z5 a1.source b1 b2 b3 b4) < (b2.length : Int)]
             (.ask (!((Z58 a1 b1 b2 b3 b4 b3 false []).1))
               (.need [(((Z58 a1 b1 b2 b3 b4 b3 false []).2).length + [(kRE1 a1 b2 b1 b3 b4)].length) * 32 ≤ Z18 ∧ ((Z58 a1 b1 b2 b3 b4 b3 false []).2).length + [(kRE1 a1 b2 b1 b3 b4)].length ≤ maxLen]
                 (.leaf .ret ⟨Za 122 [(4, .ptr 5 0)], (.cells 111 [.vec 1, .vec 2, .vec 6, .vec 4] :: oV b1 b2 b3 b4 [.cells 52 [.int .i64 0, .int .i64 ((kRE0 b2 a1 b1 b3 b4).size), .str (⟨#[]⟩ : BA), .int .u64 ((kRE0 b2 a1 b1 b3 b4).tag)], .vec false ⟨.snap, (((Z58 a1 b1 b2 b3 b4 b3 false []).2) ++ [(kRE1 a1 b2 b1 b3 b4)])⟩])⟩ [0, 1, 2, 3, 4, 5, 9]))
               (.leaf .ret ⟨Za 122 [(4, .ptr 5 0)], (.cells 111 [.vec 1, .vec 2, .vec 6, .vec 4] :: oV b1 b2 b3 b4 [.cells 52 [.int .i64 0, .int .i64 ((kRE0 b2 a1 b1 b3 b4).size), .str (⟨#[]⟩ : BA), .int .u64 ((kRE0 b2 a1 b1 b3 b4).tag)], .vec false ⟨.snap, (Z58 a1 b1 b2 b3 b4 b3 false []).2⟩])⟩ [0, 1, 2, 3, 4, 5, 7]))))))))
theorem rD_cutF_tr (a1 : XCall) (b1 : LZ) (b2 : LV) (b3 : LS) (b4 : LQ) (hp0 : b1.length ≤ 1000) (hp1 : b2.length ≤ 1000) (hp2 : b3.length ≤ 1000) (hp3 : b4.length ≤ 1000) (hp4 : ∀ v ∈ b2, v.nodes.length ≤ 1000) (hp5 : ∀ v ∈ b2, ZHas b1 v.zone) : Tr Tryz.prog 5 (Z3c Tryz.f88) (Z27 Tryz.f88 [.ptr 0 0, .agg (cc a1)] (.cells 111 [.vec 1, .vec 2, .vec 3, .vec 4] :: oV b1 b2 b3 b4 [])) (Z48 Tryz.prog Tryz.f88 (.agg [.int .i64 (((Z33 a1 b1 b2 b3 b4).1).err), .int .i64 (((Z33 a1 b1 b2 b3 b4).1).size), .str (((Z33 a1 b1 b2 b3 b4).1).zone), .int .u64 (((Z33 a1 b1 b2 b3 b4).1).tag)]) (.cells 111 [.vec 5, .vec 6, .vec 7, .vec 8] :: .dead :: .dead :: .dead :: .dead :: oV ((Z33 a1 b1 b2 b3 b4).2.1) ((Z33 a1 b1 b2 b3 b4).2.2.1) ((Z33 a1 b1 b2 b3 b4).2.2.2.1) ((Z33 a1 b1 b2 b3 b4).2.2.2.2) [])) := by
 refine Tr.post ?_
 refine Z2f (kok _ _ _ _ _ _) (E := E_rD_cut) (L := (Z5f [(1, Z136 a1 b1 b2 b3 b4 false 0 [], [0, 1, 2, 3, 4, 6, 7, 8], Ze2 a1 b1 b2 b3 b4 false 0 [])])) 60 9999 (Z14.one (g := Z47 Tryz.f88 0) (b := 1) (by kernel_rfl) (by kernel_rfl) (by kernel_rfl) (by kernel_rfl) (fun Q h => rD_cutL_loop a1 b1 b2 b3 b4 hp0 hp1 hp2 hp3 hp4 hp5 (by omega) ⟨(false, 0, []), ⟨Nat.zero_le _, Nat.zero_le _⟩⟩ Q h)) (rD_cutR a1 b1 b2 b3 b4) (by kernel_rfl) (by kernel_rfl) (by kernel_rfl) ?_
 unfold rD_cutR
 refine ⟨(by (iterate 4 refine Z2 (by first | assumption | omega | ((try intro _); (try simp only [decide_eq_true_eq, decide_eq_false_iff_not, Bool.cond_false_right, Bool.cond_true_right, Bool.cond_true_left, Bool.cond_false_left, Bool.and_eq_true, Bool.or_eq_true, Bool.not_eq_true', Z18, maxLen, List.length_cons, List.length_nil, List.length_append, Z44] at *); omega)) ?_); exact Z9), ?_⟩
 refine ⟨fun h0 => ?_, fun h0 => ?_⟩
 · refine ⟨(by (iterate 2 refine Z2 (by (try refine fun (_ : _ = _) => ?_); (try have hq := rngs a1 b1 b2 b3 b4); (try simp only [decide_eq_true_eq, decide_eq_false_iff_not, Bool.not_eq_false'] at *); first | omega | (constructor <;> omega)) ?_); exact Z9), ?_⟩
   have hF : Z33 a1 b1 b2 b3 b4 = ((⟨(0 : Int), ((b3.getD ((Z24 a1.target b1 b2 b3 b4).toNat) default).size), (⟨#[]⟩ : BA), ((b3.getD ((Z24 a1.target b1 b2 b3 b4).toNat) default).tag)⟩ : XRes), b1, b2, b3, b4) := by first | exact (Z12 h0 rfl) | simp only [Z33, h0, cond_true, cond_false]
   exact ⟨_, ((((Turn.moveC 0 0 1 6 rfl rfl rfl (by simp [hset, oM, oV])).trans (Turn.moveC 0 1 2 7 rfl rfl rfl (by simp [hset, oM, oV]))).trans (Turn.moveC 0 2 3 8 rfl rfl rfl (by simp [hset, oM, oV]))).trans (Turn.moveC 0 3 4 9 rfl rfl rfl (by simp [hset, oM, oV]))).trans (Turn.fits (p := ⟨Za 122 [(4, .ptr 9 0)], (.cells 111 [.vec 5, .vec 6, .vec 7, .vec 8] :: .dead :: .dead :: .dead :: .dead :: oV b1 b2 b3 b4 [.cells 52 [.int .i64 0, .int .i64 ((b3.getD ((Z24 a1.target b1 b2 b3 b4).toNat) default).size), .str (⟨#[]⟩ : BA), .int .u64 ((b3.getD ((Z24 a1.target b1 b2 b3 b4).toNat) default).tag)]])⟩) [0, 1, 2, 3, 4, 6, 7, 8, 9, 5] (by kernel_rfl) (by kernel_rfl) (by kernel_rfl) (by kernel_rfl)), trivial, .inl (by (try rw [hF]); kernel_rfl), by (try rw [hF]); kernel_rfl⟩
 · refine ⟨(by (iterate 4 refine Z2 (by first | assumption | omega | ((try intro _); (try simp only [decide_eq_true_eq, decide_eq_false_iff_not, Bool.cond_false_right, Bool.cond_true_right, Bool.cond_true_left, Bool.cond_false_left, Bool.and_eq_true, Bool.or_eq_true, Bool.not_eq_true', Z18, maxLen, List.length_cons, List.length_nil, List.length_append, Z44] at *); omega)) ?_); exact Z9), ?_⟩
   refine ⟨fun h1 => ?_, fun h1 => ?_⟩
   · have hF : Z33 a1 b1 b2 b3 b4 = ((Z8 (5 : Int)), b1, b2, b3, b4) := by first | exact (Z3 h0 (Z12 h1 rfl)) | simp only [Z33, h0, h1, cond_true, cond_false]
     exact ⟨_, ((((Turn.moveC 0 0 1 6 rfl rfl rfl (by simp [hset, oM, oV])).trans (Turn.moveC 0 1 2 7 rfl rfl rfl (by simp [hset, oM, oV]))).trans (Turn.moveC 0 2 3 8 rfl rfl rfl (by simp [hset, oM, oV]))).trans (Turn.moveC 0 3 4 9 rfl rfl rfl (by simp [hset, oM, oV]))).trans (Turn.fits (p := ⟨Za 122 [(4, .ptr 9 0)], (.cells 111 [.vec 5, .vec 6, .vec 7, .vec 8] :: .dead :: .dead :: .dead :: .dead :: oV b1 b2 b3 b4 [.cells 52 [.int .i64 ((Z8 (5 : Int)).err), .int .i64 ((Z8 (5 : Int)).size), .str ((Z8 (5 : Int)).zone), .int .u64 ((Z8 (5 : Int)).tag)]])⟩) [0, 1, 2, 3, 4, 6, 7, 8, 9, 5] (by kernel_rfl) (by kernel_rfl) (by kernel_rfl) (by kernel_rfl)), trivial, .inl (by (try rw [hF]); kernel_rfl), by (try rw [hF]); kernel_rfl⟩
   · refine ⟨fun h2 => ?_, fun h2 => ?_⟩
     · have hF : Z33 a1 b1 b2 b3 b4 = ((Z8 (7 : Int)), b1, b2, b3, b4) := by first | exact (Z3 h0 (Z3 h1 (Z12 h2 rfl))) | simp only [Z33, h0, h1, h2, cond_true, cond_false]
       exact ⟨_, ((((Turn.moveC 0 0 1 6 rfl rfl rfl (by simp [hset, oM, oV])).trans (Turn.moveC 0 1 2 7 rfl rfl rfl (by simp [hset, oM, oV]))).trans (Turn.moveC 0 2 3 8 rfl rfl rfl (by simp [hset, oM, oV]))).trans (Turn.moveC 0 3 4 9 rfl rfl rfl (by simp [hset, oM, oV]))).trans (Turn.fits (p := ⟨Za 122 [(4, .ptr 9 0)], (.cells 111 [.vec 5, .vec 6, .vec 7, .vec 8] :: .dead :: .dead :: .dead :: .dead :: oV b1 b2 b3 b4 [.cells 52 [.int .i64 ((Z8 (7 : Int)).err), .int .i64 ((Z8 (7 : Int)).size), .str ((Z8 (7 : Int)).zone), .int .u64 ((Z8 (7 : Int)).tag)]])⟩) [0, 1, 2, 3, 4, 6, 7, 8, 9, 5] (by kernel_rfl) (by kernel_rfl) (by kernel_rfl) (by kernel_rfl)), trivial, .inl (by (try rw [hF]); kernel_rfl), by (try rw [hF]); kernel_rfl⟩
     · refine ⟨(by (iterate 2 refine Z2 (by (try refine fun (_ : _ = _) => ?_); (try have hq := rngs a1 b1 b2 b3 b4); (try simp only [decide_eq_true_eq, decide_eq_false_iff_not, Bool.not_eq_false'] at *); first | omega | (constructor <;> omega)) ?_); exact Z9), ?_⟩
       refine ⟨fun h3 => ?_, fun h3 => ?_⟩
       · refine ⟨Z2 (by (try refine fun (_ : _ = _) => ?_); (try have h80 := rD_cutL_len a1 b1 b2 b3 b4 b3 false []); (try simp only [List.length_nil] at *); unfold Z18 maxLen; (try simp only [List.length_append, List.length_cons, List.length_nil, List.length_drop, List.length_take]); omega) (Z9), ?_⟩
         have hF : Z33 a1 b1 b2 b3 b4 = ((⟨(0 : Int), ((kRE0 b2 a1 b1 b3 b4).size), (⟨#[]⟩ : BA), ((kRE0 b2 a1 b1 b3 b4).tag)⟩ : XRes), b1, b2, (((Z58 a1 b1 b2 b3 b4 b3 false []).2) ++ [(kRE1 a1 b2 b1 b3 b4)]), b4) := by first | exact (Z3 h0 (Z3 h1 (Z3 h2 (Z12 h3 rfl)))) | simp only [Z33, h0, h1, h2, h3, cond_true, cond_false]
         exact ⟨_, ((((Turn.moveC 0 0 1 7 rfl rfl rfl (by simp [hset, oM, oV])).trans (Turn.moveC 0 1 2 8 rfl rfl rfl (by simp [hset, oM, oV]))).trans (Turn.moveC 0 2 6 9 rfl rfl rfl (by simp [hset, oM, oV]))).trans (Turn.moveC 0 3 4 10 rfl rfl rfl (by simp [hset, oM, oV]))).trans (Turn.fits (p := ⟨Za 122 [(4, .ptr 9 0)], (.cells 111 [.vec 5, .vec 6, .vec 7, .vec 8] :: .dead :: .dead :: .dead :: .dead :: oV b1 b2 (((Z58 a1 b1 b2 b3 b4 b3 false []).2) ++ [(kRE1 a1 b2 b1 b3 b4)]) b4 [.cells 52 [.int .i64 0, .int .i64 ((kRE0 b2 a1 b1 b3 b4).size), .str (⟨#[]⟩ : BA), .int .u64 ((kRE0 b2 a1 b1 b3 b4).tag)]])⟩) [0, 1, 2, 3, 4, 7, 8, 9, 10, 5] (by kernel_rfl) (by kernel_rfl) (by kernel_rfl) (by kernel_rfl)), trivial, .inl (by (try rw [hF]); kernel_rfl), by (try rw [hF]); kernel_rfl⟩
       · have hF : Z33 a1 b1 b2 b3 b4 = ((⟨(0 : Int), ((kRE0 b2 a1 b1 b3 b4).size), (⟨#[]⟩ : BA), ((kRE0 b2 a1 b1 b3 b4).tag)⟩ : XRes), b1, b2, (Z58 a1 b1 b2 b3 b4 b3 false []).2, b4) := by first | exact (Z3 h0 (Z3 h1 (Z3 h2 (Z3 h3 rfl)))) | simp only [Z33, h0, h1, h2, h3, cond_true, cond_false]
         exact ⟨_, ((((Turn.moveC 0 0 1 7 rfl rfl rfl (by simp [hset, oM, oV])).trans (Turn.moveC 0 1 2 8 rfl rfl rfl (by simp [hset, oM, oV]))).trans (Turn.moveC 0 2 6 9 rfl rfl rfl (by simp [hset, oM, oV]))).trans (Turn.moveC 0 3 4 10 rfl rfl rfl (by simp [hset, oM, oV]))).trans (Turn.fits (p := ⟨Za 122 [(4, .ptr 9 0)], (.cells 111 [.vec 5, .vec 6, .vec 7, .vec 8] :: .dead :: .dead :: .dead :: .dead :: oV b1 b2 ((Z58 a1 b1 b2 b3 b4 b3 false []).2) b4 [.cells 52 [.int .i64 0, .int .i64 ((kRE0 b2 a1 b1 b3 b4).size), .str (⟨#[]⟩ : BA), .int .u64 ((kRE0 b2 a1 b1 b3 b4).tag)]])⟩) [0, 1, 2, 3, 4, 7, 8, 9, 10, 5] (by kernel_rfl) (by kernel_rfl) (by kernel_rfl) (by kernel_rfl)), trivial, .inl (by (try rw [hF]); kernel_rfl), by (try rw [hF]); kernel_rfl⟩
noncomputable def rD_cut_fact : Fact Tryz.prog := Z4b 88 Tryz.f88 (by kernel_rfl) rfl (by kernel_rfl) [.c (.ptr 0 0), .st .call] [.cells 111 [.vec 1, .vec 2, .vec 3, .vec 4], .vec false .zone, .vec false .vol, .vec false .snap, .vec false .done] false (fun t u => .agg [.int .i64 (((Z33 t.2.1 u.2.1 u.2.2.1 u.2.2.2.1 u.2.2.2.2.1).1).err), .int .i64 (((Z33 t.2.1 u.2.1 u.2.2.1 u.2.2.2.1 u.2.2.2.2.1).1).size), .str (((Z33 t.2.1 u.2.1 u.2.2.1 u.2.2.2.1 u.2.2.2.2.1).1).zone), .int .u64 (((Z33 t.2.1 u.2.1 u.2.2.1 u.2.2.2.1 u.2.2.2.2.1).1).tag)]) (fun t u => (.cells 111 [.vec 5, .vec 6, .vec 7, .vec 8] :: .dead :: .dead :: .dead :: .dead :: oV ((Z33 t.2.1 u.2.1 u.2.2.1 u.2.2.2.1 u.2.2.2.2.1).2.1) ((Z33 t.2.1 u.2.1 u.2.2.1 u.2.2.2.1 u.2.2.2.2.1).2.2.1) ((Z33 t.2.1 u.2.1 u.2.2.1 u.2.2.2.1 u.2.2.2.2.1).2.2.2.1) ((Z33 t.2.1 u.2.1 u.2.2.1 u.2.2.2.1 u.2.2.2.2.1).2.2.2.2) [])) (fun t u => [u.2.1.length ≤ 1000, u.2.2.1.length ≤ 1000, u.2.2.2.1.length ≤ 1000, u.2.2.2.2.1.length ≤ 1000, ∀ v ∈ u.2.2.1, v.nodes.length ≤ 1000, ∀ v ∈ u.2.2.1, ZHas u.2.1 v.zone])
 (nofun) (fun t u => by kernel_rfl) (fun t u => by kernel_rfl) (fun t u h => rD_cutF_tr t.2.1 u.2.1 u.2.2.1 u.2.2.2.1 u.2.2.2.2.1 (h _ mS) (h _ (mN mS)) (h _ (mN (mN mS))) (h _ (mN (mN (mN mS)))) (h _ (mN (mN (mN (mN mS))))) (h _ (mN (mN (mN (mN (mN mS)))))))
end Go.Proofs.YtkledlcmhbjadaaGreat
