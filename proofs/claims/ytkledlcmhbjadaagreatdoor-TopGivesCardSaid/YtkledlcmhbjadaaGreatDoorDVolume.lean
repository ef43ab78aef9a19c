/- Bind: what is done next for a volume. -/
import Derived.Test.YtkledlcmhbjadaaGreatDoorDClaim
set_option linter.unusedVariables false
set_option linter.unusedSimpArgs false
set_option maxRecDepth 100000
namespace Go.Proofs.YtkledlcmhbjadaaGreatDoor
open Go Go.Eng
noncomputable def E_bind_world_some_6 : Env := envOf (P := Tryz.prog) [] [] [] ckf
def bind_world_some_6F (a1 : Int) (b0 : List XObj) (b1 : XObj) : Int :=
 a1
def bind_world_some_6R (a1 : Int) (b0 : List XObj) (b1 : XObj) : RT :=
 (.leaf .ret ⟨slots 8 [(6, .fn 41 [.ptr 2 0, .ptr 3 0, .ptr 4 0])], [.vec true ⟨.obj, b0⟩, .cells 32 (oc b1), .cells 67 [.vec 0], .cells 27 [.int .u8 a1], .cells 73 [.fn 33 [.ptr 1 0]]]⟩ [])
theorem bind_world_some_6F_tr (a1 : Int) (b0 : List XObj) (b1 : XObj)  : Tr Tryz.prog 2 (bodyOf Tryz.f20) (fnBegins Tryz.f20 [.agg [.vec 0], .int .u8 a1, .fn 33 [.ptr 1 0]] [.vec true ⟨.obj, b0⟩, .cells 32 (oc b1)]) (fnEnds Tryz.prog Tryz.f20 (.fn 41 [.ptr 2 0, .ptr 3 0, .ptr 4 0]) [.vec true ⟨.obj, b0⟩, .cells 32 (oc b1), .cells 67 [.vec 0], .cells 27 [.int .u8 (bind_world_some_6F a1 b0 b1)], .cells 73 [.fn 33 [.ptr 1 0]]]) := by
 refine Tr_tree (kok _ _ _ _ _ _) (E := E_bind_world_some_6) (L := noLoops) 60 9999 LoopsOk.none (bind_world_some_6R a1 b0 b1) (by kernel_rfl) (by kernel_rfl) (by kernel_rfl) ?_
 unfold bind_world_some_6R
 exact ⟨trivial, .inl (by kernel_rfl), by kernel_rfl⟩
noncomputable def bind_world_some_6_fact0 : Fact Tryz.prog := factOf 20 Tryz.f20 (by kernel_rfl) rfl (by kernel_rfl) [.agg [.vec 0], .c (.int .u8), .fn 33 [.ptr 1 0]] [.vec true .obj, .st 32 .obj] false (fun t u => .fn 41 [.ptr 2 0, .ptr 3 0, .ptr 4 0]) (fun t u => [.vec true ⟨.obj, u.1⟩, .cells 32 (oc u.2.1), .cells 67 [.vec 0], .cells 27 [.int .u8 (bind_world_some_6F t.2.1 u.1 u.2.1)], .cells 73 [.fn 33 [.ptr 1 0]]]) (fun t u => [])
 (nofun) (fun t u => by kernel_rfl) (fun t u => by kernel_rfl) (fun t u h => bind_world_some_6F_tr t.2.1 u.1 u.2.1 )
noncomputable def bind_world_some_6_fact : Fact Tryz.prog := factThin bind_world_some_6_fact0 [.agg [.vec 0], .c (.int .u8), .fn 33 [.ptr 1 0]] [.vec true .obj, .st 32 .obj] (fun t u => .fn 41 [.ptr 2 0, .ptr 3 0, .ptr 4 0]) (fun t u => [.vec true ⟨.obj, u.1⟩, .cells 32 (oc u.2.1), .cells 67 [.vec 0], .cells 27 [.int .u8 (bind_world_some_6F t.2.1 u.1 u.2.1)], .cells 73 [.fn 33 [.ptr 1 0]]]) (fun t u => []) rfl [0, 1] (by
 intro t u k hk
 simp only [List.mem_cons, List.not_mem_nil, or_false] at hk
 rcases hk with rfl | rfl
 all_goals exact ⟨by decide, rfl⟩)
noncomputable def E_bind_Volume_1 : Env := envOf (P := Tryz.prog) [bind_Ref_fact] [] [] ckf
def bind_Volume_1F (a0 : XObj) (b0 : XObj) : Bool :=
 decide ((bind_RefF a0) = b0.claim)
def bind_Volume_1R (a0 : XObj) (b0 : XObj) : RT :=
 (.need [a0.Fine]
   (.leaf .ret ⟨slots 9 [(3, .bool (decide ((bind_RefF a0) = b0.claim)))], [.cells 32 (oc b0)]⟩ []))
theorem bind_Volume_1F_tr (a0 : XObj) (b0 : XObj) (hp0 : a0.Fine) : Tr Tryz.prog 1 (bodyOf Tryz.f33) (fnBegins Tryz.f33 [.agg (oc a0), .ptr 0 0] [.cells 32 (oc b0)]) (fnEnds Tryz.prog Tryz.f33 (.bool (bind_Volume_1F a0 b0)) [.cells 32 (oc b0)]) := by
 refine Tr_tree (kok _ _ _ _ _ _) (E := E_bind_Volume_1) (L := noLoops) 60 9999 LoopsOk.none (bind_Volume_1R a0 b0) (by kernel_rfl) (by kernel_rfl) (by kernel_rfl) ?_
 unfold bind_Volume_1R
 refine ⟨need_cons (by first | assumption | exact hp0) (need_nil), ?_⟩
 exact ⟨trivial, .inl (by kernel_rfl), by kernel_rfl⟩
noncomputable def bind_Volume_1_fact : Fact Tryz.prog := factOf 33 Tryz.f33 (by kernel_rfl) rfl (by kernel_rfl) [.st .obj, .c (.ptr 0 0)] [.st 32 .obj] true (fun t u => .bool (bind_Volume_1F t.1 u.1)) (fun t u => HPL.enc _ u) (fun t u => [t.1.Fine])
 (fun _ _ _ => rfl) (fun t u => by kernel_rfl) (fun t u => by kernel_rfl) (fun t u h => bind_Volume_1F_tr t.1 u.1 (h _ List.mem_cons_self))
noncomputable def E_bind_world_any_3_it : Env := envOf (P := Tryz.prog) [bind_Volume_1_fact] [] [] ckf false [bind_world_any_r_fact]
def bind_world_any_3_itLF (a1 : Int) (b0 : List XObj) (b1 : XObj) : List XObj → Bool
 | [] => false
 | o :: r => cond (cond ((o.kind) == (bind_world_some_6F a1 b0 b1)) (bind_Volume_1F o b1) false)
  true
  (bind_world_any_3_itLF a1 b0 b1 r)
def bind_world_any_3_itLS (a1 : Int) (b0 : List XObj) (b1 : XObj) (i : Nat) : St :=
 ⟨slots 30 [(0, .yld 6), (2, .ptr 4 0), (3, .ptr 5 0), (8, .vec 0), (9, .int .i64 (b0.length : Int)), (10, .int .i64 (i : Int))], [.vec true ⟨.obj, b0⟩, .cells 32 (oc b1), .cells 4 [.bool false], .cells 67 [.vec 0], .cells 27 [.int .u8 (bind_world_some_6F a1 b0 b1)], .cells 73 [.fn 33 [.ptr 1 0]], .loop 1 (slots 12 [(6, .ptr 2 0)]) none]⟩
def bind_world_any_3_itLR (a1 : Int) (b0 : List XObj) (b1 : XObj) (i : Nat) : RT :=
 (.ask (decide ((i : Int) < (b0.length : Int)))
   (.need [0 ≤ (i : Int) ∧ (i : Int) < (b0.length : Int)]
     (.need [((((b0.getD i default).kind) == (bind_world_some_6F a1 b0 b1)) = true) → ((b0.getD i default).Fine)]
       (.ask (cond (((b0.getD i default).kind) == (bind_world_some_6F a1 b0 b1)) (bind_Volume_1F (b0.getD i default) b1) false)
         (.ask true
           (.ask true
             (.leaf .ret ⟨slots 30 [], [.vec true ⟨.obj, b0⟩, .cells 32 (oc b1), .cells 4 [.bool true], .cells 67 [.vec 0], .cells 27 [.int .u8 (bind_world_some_6F a1 b0 b1)], .cells 73 [.fn 33 [.ptr 1 0]], .loop 1 (slots 12 [(6, .ptr 2 0)]) (some (.ret))]⟩ [])
             .fail)
           .fail)
         (.ask false
           .fail
           (.leaf .normal ⟨slots 30 [(0, .yld 6), (2, .ptr 4 0), (3, .ptr 5 0), (8, .vec 0), (9, .int .i64 (b0.length : Int)), (10, .int .i64 (IntKind.i64.wrap ((i : Int) + (1 : Int))))], [.vec true ⟨.obj, b0⟩, .cells 32 (oc b1), .cells 4 [.bool false], .cells 67 [.vec 0], .cells 27 [.int .u8 (bind_world_some_6F a1 b0 b1)], .cells 73 [.fn 33 [.ptr 1 0]], .loop 1 (slots 12 [(6, .ptr 2 0)]) none]⟩ [])))))
   (.leaf (.exit 0) ⟨slots 30 [], [.vec true ⟨.obj, b0⟩, .cells 32 (oc b1), .cells 4 [.bool false], .cells 67 [.vec 0], .cells 27 [.int .u8 (bind_world_some_6F a1 b0 b1)], .cells 73 [.fn 33 [.ptr 1 0]], .loop 1 (slots 12 [(6, .ptr 2 0)]) none]⟩ []))
def bind_world_any_3_itLT (a1 : Int) (b0 : List XObj) (b1 : XObj) (i : Nat) : Tree :=
 .ask (bind_world_any_3_itLF a1 b0 b1 (b0.drop i)) (.leaf .ret ⟨slots 30 [], [.vec true ⟨.obj, b0⟩, .cells 32 (oc b1), .cells 4 [.bool true], .cells 67 [.vec 0], .cells 27 [.int .u8 (bind_world_some_6F a1 b0 b1)], .cells 73 [.fn 33 [.ptr 1 0]], .loop 1 (slots 12 [(6, .ptr 2 0)]) (some (.ret))]⟩) (.leaf (.exit 0) ⟨slots 30 [], [.vec true ⟨.obj, b0⟩, .cells 32 (oc b1), .cells 4 [.bool false], .cells 67 [.vec 0], .cells 27 [.int .u8 (bind_world_some_6F a1 b0 b1)], .cells 73 [.fn 33 [.ptr 1 0]], .loop 1 (slots 12 [(6, .ptr 2 0)]) none]⟩)
theorem bind_world_any_3_itL_loop (a1 : Int) (b0 : List XObj) (b1 : XObj) (hp0 : b0.length < 4611686018427387904) (hp1 : ∀ o ∈ b0, o.Fine) (hlen : b0.length < 4611686018427387904) (z : { z : Nat // z ≤ b0.length }) (Q : Exit → St → Prop) (h : (bind_world_any_3_itLT a1 b0 b1 z.1).All Q) : Tr Tryz.prog 7 (.loop (loopAt Tryz.f41 0)) (bind_world_any_3_itLS a1 b0 b1 z.1) Q := by
 refine Tr_loopT (kok _ _ _ _ _ _) (E := E_bind_world_any_3_it) (ι := { z : Nat // z ≤ b0.length }) 60 0 (fun _ => noLoops) (fun z => bind_world_any_3_itLS a1 b0 b1 z.1) (fun z => bind_world_any_3_itLT a1 b0 b1 z.1) (fun z => bind_world_any_3_itLR a1 b0 b1 z.1) (fun z => b0.length - z.1) (fun _ => LoopsOk.none) (fun z => by obtain ⟨i, hi⟩ := z; kernel_rfl) (fun z => by obtain ⟨i, hi⟩ := z; kernel_rfl) (fun z => by obtain ⟨i, hi⟩ := z; kernel_rfl) ?_ z Q h
 rintro ⟨i, hi⟩ Q hT
 replace hT : (bind_world_any_3_itLT a1 b0 b1 i).All Q := hT
 replace hi : i ≤ b0.length := hi
 show (bind_world_any_3_itLR a1 b0 b1 i).All _
 unfold bind_world_any_3_itLR
 refine ⟨fun h0 => ?_, fun h0 => ?_⟩
 · have hlt : i < b0.length := by simpa using h0
   have hd := drop_getD hlt
   have hw := wrap_succ (i := i) (by omega)
   refine ⟨need_cons (by first | assumption | omega | (intro; omega) | (simp only [decide_eq_true_eq, decide_eq_false_iff_not, Bool.cond_false_right, Bool.cond_true_right, Bool.cond_true_left, Bool.cond_false_left, Bool.and_eq_true, Bool.or_eq_true, Bool.not_eq_true', bytesLim, maxLen, List.length_cons, List.length_nil, List.length_append, byteSize_lit] at *; omega) | (intro; simp only [decide_eq_true_eq, decide_eq_false_iff_not, Bool.cond_false_right, Bool.cond_true_right, Bool.cond_true_left, Bool.cond_false_left, Bool.and_eq_true, Bool.or_eq_true, Bool.not_eq_true', bytesLim, maxLen, List.length_cons, List.length_nil, List.length_append, byteSize_lit] at *; omega)) (need_nil), ?_⟩
   refine ⟨need_cons (by (try refine fun (_ : _ = _) => ?_); first | assumption | exact get_fine _ _ _ (by first | assumption | exact of_fine _ (by first | assumption | exact w12_few_fine (by assumption)) | exact r12_Uniq_fine _ (by first | assumption | exact w12_few_fine (by assumption)) | exact w12_few_fine (by assumption)) | exact r12_Get_fine _ _ _ (by first | assumption | exact of_fine _ (by first | assumption | exact w12_few_fine (by assumption)) | exact r12_Uniq_fine _ (by first | assumption | exact w12_few_fine (by assumption)) | exact w12_few_fine (by assumption)) | exact fine_default | exact hp1 _ (gD_mem (by assumption)) | exact r12_Uniq_fine _ (by assumption) _ (gD_mem (by assumption)) | exact of_fine _ (by assumption) _ (gD_mem (by assumption)) | exact w12_few_fine (by assumption) _ (gD_mem (by assumption)) | exact hp1 | exact hp0 | (refine ⟨?_, ?_, ?_, ?_, ?_, ?_, ?_, ?_, ?_⟩ <;> first | assumption | decide | (simp only [size_mk]; decide))) (need_nil), ?_⟩
   refine ⟨fun h1 => ?_, fun h1 => ?_⟩
   · refine ⟨fun h2 => ?_, fun h2 => ?_⟩
     · refine ⟨fun h3 => ?_, fun h3 => ?_⟩
       · have hF : bind_world_any_3_itLF a1 b0 b1 (b0.drop i) = true := by rw [hd]; first | exact (cond_t h1 (cond_t h2 (cond_t h3 rfl))) | simp only [bind_world_any_3_itLF, h0, h1, h2, h3, cond_true, cond_false]
         unfold bind_world_any_3_itLT at hT
         rw [hF] at hT
         exact hT.1 rfl
       · exact absurd h3 (by simp)
     · exact absurd h2 (by simp)
   · refine ⟨fun h2 => ?_, fun h2 => ?_⟩
     · exact absurd h2 (by simp)
     · have hF : bind_world_any_3_itLF a1 b0 b1 (b0.drop i) = bind_world_any_3_itLF a1 b0 b1 (b0.drop (i + 1)) := by rw [hd]; first | exact (cond_f h1 (cond_f h2 rfl)) | simp only [bind_world_any_3_itLF, h0, h1, h2, cond_true, cond_false]
       refine ⟨⟨(i + 1), by show (i + 1) ≤ b0.length; omega⟩, by show b0.length - (i + 1) < b0.length - i; omega, ?_, ?_⟩
       · show _ = bind_world_any_3_itLS a1 b0 b1 (i + 1)
         unfold bind_world_any_3_itLS
         simp only [hw]
       · show (bind_world_any_3_itLT a1 b0 b1 (i + 1)).All Q
         unfold bind_world_any_3_itLT at hT ⊢
         rw [hF] at hT
         exact hT
 · have hge : ¬ i < b0.length := by simpa using h0
   have hd : b0.drop i = [] := List.drop_eq_nil_of_le (by omega)
   have hF : bind_world_any_3_itLF a1 b0 b1 (b0.drop i) = false := by rw [hd]; first | exact rfl | simp only [bind_world_any_3_itLF, h0, cond_true, cond_false]
   unfold bind_world_any_3_itLT at hT
   rw [hF] at hT
   exact hT.2 rfl
def bind_world_any_3_itS (a1 : Int) (b0 : List XObj) (b1 : XObj) : St :=
 ⟨slots 12 [(6, .ptr 2 0), (10, .fn 41 [.ptr 3 0, .ptr 4 0, .ptr 5 0])], [.vec true ⟨.obj, b0⟩, .cells 32 (oc b1), .cells 4 [.bool false], .cells 67 [.vec 0], .cells 27 [.int .u8 (bind_world_some_6F a1 b0 b1)], .cells 73 [.fn 33 [.ptr 1 0]]]⟩
def bind_world_any_3_itF (a1 : Int) (b0 : List XObj) (b1 : XObj) : Bool :=
 cond (bind_world_any_3_itLF a1 b0 b1 b0)
  true
  false
def bind_world_any_3_itR (a1 : Int) (b0 : List XObj) (b1 : XObj) : RT :=
 (.ask (bind_world_any_3_itLF a1 b0 b1 b0)
   (.leaf .ret ⟨slots 30 [], [.vec true ⟨.obj, b0⟩, .cells 32 (oc b1), .cells 4 [.bool true], .cells 67 [.vec 0], .cells 27 [.int .u8 (bind_world_some_6F a1 b0 b1)], .cells 73 [.fn 33 [.ptr 1 0]], .loop 1 (slots 12 [(6, .ptr 2 0)]) (some (.ret))]⟩ [])
   (.leaf .normal ⟨slots 30 [], [.vec true ⟨.obj, b0⟩, .cells 32 (oc b1), .cells 4 [.bool false], .cells 67 [.vec 0], .cells 27 [.int .u8 (bind_world_some_6F a1 b0 b1)], .cells 73 [.fn 33 [.ptr 1 0]], .loop 1 (slots 12 [(6, .ptr 2 0)]) none]⟩ []))
def bind_world_any_3_itT (a1 : Int) (b0 : List XObj) (b1 : XObj) : Tree :=
 .ask (bind_world_any_3_itF a1 b0 b1) (.leaf .ret ⟨slots 12 [(6, .ptr 2 0), (10, .fn 41 [.ptr 3 0, .ptr 4 0, .ptr 5 0])], [.vec true ⟨.obj, b0⟩, .cells 32 (oc b1), .cells 4 [.bool true], .cells 67 [.vec 0], .cells 27 [.int .u8 (bind_world_some_6F a1 b0 b1)], .cells 73 [.fn 33 [.ptr 1 0]], .dead]⟩) (.leaf .normal ⟨slots 12 [(6, .ptr 2 0), (10, .fn 41 [.ptr 3 0, .ptr 4 0, .ptr 5 0])], [.vec true ⟨.obj, b0⟩, .cells 32 (oc b1), .cells 4 [.bool false], .cells 67 [.vec 0], .cells 27 [.int .u8 (bind_world_some_6F a1 b0 b1)], .cells 73 [.fn 33 [.ptr 1 0]], .dead]⟩)
theorem bind_world_any_3_it_rg (a1 : Int) (b0 : List XObj) (b1 : XObj) (hp0 : b0.length < 4611686018427387904) (hp1 : ∀ o ∈ b0, o.Fine) (Q : Exit → St → Prop) (hT : (bind_world_any_3_itT a1 b0 b1).All Q) : Tr Tryz.prog 2 (loopAt Tryz.f16 0) (bind_world_any_3_itS a1 b0 b1) Q := by
 have hc : loopAt Tryz.f16 0 = .rangeFunc (.tmp 10) (Globs.site 1).1 (Globs.site 1).2.1 (Globs.site 1).2.2 := by kernel_rfl
 rw [hc]
 refine Tr_range (site := 1) (gf := 41) (fn := Tryz.f41) (c := bodyOf Tryz.f41) (cap := [.ptr 3 0, .ptr 4 0, .ptr 5 0]) 6 [6] (slots 12 [(6, .ptr 2 0)]) [.yld 6, .ptr 3 0, .ptr 4 0, .ptr 5 0] [.vec true ⟨.obj, b0⟩, .cells 32 (oc b1), .cells 4 [.bool false], .cells 67 [.vec 0], .cells 27 [.int .u8 (bind_world_some_6F a1 b0 b1)], .cells 73 [.fn 33 [.ptr 1 0]], .loop 1 (slots 12 [(6, .ptr 2 0)]) none] rfl (by kernel_rfl) (by kernel_rfl) rfl (by kernel_rfl) (by kernel_rfl) (by kernel_rfl) (by kernel_rfl) (by kernel_rfl) (by kernel_rfl) (by kernel_rfl) (by kernel_rfl) ?_
 refine Tr_tree (kok _ _ _ _ _ _) (E := E_bind_world_any_3_it) (L := (loopsOf [(0, bind_world_any_3_itLS a1 b0 b1 0, [], bind_world_any_3_itLT a1 b0 b1 0)])) 60 9999 (LoopsOk.one (g := loopAt Tryz.f41 0) (b := 0) (by kernel_rfl) (by kernel_rfl) (by kernel_rfl) (by kernel_rfl) (fun Q h => bind_world_any_3_itL_loop a1 b0 b1 hp0 hp1 (by first | assumption | omega | exact of_short _ (by first | assumption | omega | exact Nat.le_trans (w12_few_len _) (by decide)) | exact r12_Uniq_short _ (by first | assumption | omega | exact Nat.le_trans (w12_few_len _) (by decide)) | exact Nat.lt_of_le_of_lt (w12_few_len _) (by decide) | decide | (simp only [List.length_append, List.length_cons, List.length_nil]; have := w12_few_len a0; omega)) ⟨0, by first | exact Nat.zero_le _ | (show 0 ≤ b0.length; omega) | (show 0 ≤ b0.length; exact ⟨Nat.zero_le _, by assumption⟩) | (show 0 ≤ b0.length; simp)⟩ Q h)) (bind_world_any_3_itR a1 b0 b1) (by kernel_rfl) (by kernel_rfl) (by kernel_rfl) ?_
 unfold bind_world_any_3_itR
 refine ⟨fun h0 => ?_, fun h0 => ?_⟩
 · have hF : bind_world_any_3_itF a1 b0 b1 = true := by first | exact (cond_t h0 rfl) | simp only [bind_world_any_3_itF, h0, cond_true, cond_false]
   unfold bind_world_any_3_itT at hT
   rw [hF] at hT
   exact ⟨⟨trivial, .tup [], by kernel_rfl⟩, (some (.ret)), [.vec true ⟨.obj, b0⟩, .cells 32 (oc b1), .cells 4 [.bool true], .cells 67 [.vec 0], .cells 27 [.int .u8 (bind_world_some_6F a1 b0 b1)], .cells 73 [.fn 33 [.ptr 1 0]], .dead], by kernel_rfl, rfl, by kernel_rfl, by kernel_rfl, by kernel_rfl, by kernel_rfl, hT.1 rfl⟩
 · have hF : bind_world_any_3_itF a1 b0 b1 = false := by first | exact (cond_f h0 rfl) | simp only [bind_world_any_3_itF, h0, cond_true, cond_false]
   unfold bind_world_any_3_itT at hT
   rw [hF] at hT
   exact ⟨⟨trivial, .tup [], by kernel_rfl⟩, none, [.vec true ⟨.obj, b0⟩, .cells 32 (oc b1), .cells 4 [.bool false], .cells 67 [.vec 0], .cells 27 [.int .u8 (bind_world_some_6F a1 b0 b1)], .cells 73 [.fn 33 [.ptr 1 0]], .dead], by kernel_rfl, rfl, by kernel_rfl, by kernel_rfl, by kernel_rfl, by kernel_rfl, hT.2 rfl⟩
noncomputable def E_bind_world_any_3 : Env := envOf (P := Tryz.prog) [bind_world_some_6_fact] [] [] ckf
def bind_world_any_3F (a1 : Int) (b0 : List XObj) (b1 : XObj) : Bool :=
 cond (bind_world_any_3_itF a1 b0 b1)
  true
  false
def bind_world_any_3R (a1 : Int) (b0 : List XObj) (b1 : XObj) : RT :=
 (.ask (bind_world_any_3_itF a1 b0 b1)
   (.leaf .ret ⟨slots 12 [(6, .ptr 2 0)], [.vec true ⟨.obj, b0⟩, .cells 32 (oc b1), .cells 4 [.bool true]]⟩ [])
   (.leaf .ret ⟨slots 12 [(6, .ptr 2 0)], [.vec true ⟨.obj, b0⟩, .cells 32 (oc b1), .cells 4 [.bool false]]⟩ []))
theorem bind_world_any_3F_tr (a1 : Int) (b0 : List XObj) (b1 : XObj) (hp0 : b0.length < 4611686018427387904) (hp1 : ∀ o ∈ b0, o.Fine) : Tr Tryz.prog 2 (bodyOf Tryz.f16) (fnBegins Tryz.f16 [.agg [.vec 0], .int .u8 a1, .fn 33 [.ptr 1 0]] [.vec true ⟨.obj, b0⟩, .cells 32 (oc b1)]) (fnEnds Tryz.prog Tryz.f16 (.bool (bind_world_any_3F a1 b0 b1)) [.vec true ⟨.obj, b0⟩, .cells 32 (oc b1)]) := by
 refine Tr_tree (kok _ _ _ _ _ _) (E := E_bind_world_any_3) (L := (loopsOf [(0, bind_world_any_3_itS a1 b0 b1, [0, 1, 3, 4, 5, 6], bind_world_any_3_itT a1 b0 b1)])) 60 9999 (LoopsOk.oneR (g := loopAt Tryz.f16 0) (b := 0) (by kernel_rfl) (by kernel_rfl) (by kernel_rfl) (by kernel_rfl) (fun Q h => bind_world_any_3_it_rg a1 b0 b1 hp0 hp1 Q h)) (bind_world_any_3R a1 b0 b1) (by kernel_rfl) (by kernel_rfl) (by kernel_rfl) ?_
 unfold bind_world_any_3R
 refine ⟨fun h0 => ?_, fun h0 => ?_⟩
 · have hF : bind_world_any_3F a1 b0 b1 = true := by first | exact (cond_t h0 rfl) | simp only [bind_world_any_3F, h0, cond_true, cond_false]
   exact ⟨trivial, .inl (by first | (rw [hF]; kernel_rfl) | kernel_rfl), by first | (rw [hF]; kernel_rfl) | kernel_rfl⟩
 · have hF : bind_world_any_3F a1 b0 b1 = false := by first | exact (cond_f h0 rfl) | simp only [bind_world_any_3F, h0, cond_true, cond_false]
   exact ⟨trivial, .inl (by first | (rw [hF]; kernel_rfl) | kernel_rfl), by first | (rw [hF]; kernel_rfl) | kernel_rfl⟩
noncomputable def bind_world_any_3_fact : Fact Tryz.prog := factOf 16 Tryz.f16 (by kernel_rfl) rfl (by kernel_rfl) [.agg [.vec 0], .c (.int .u8), .fn 33 [.ptr 1 0]] [.vec true .obj, .st 32 .obj] true (fun t u => .bool (bind_world_any_3F t.2.1 u.1 u.2.1)) (fun t u => HPL.enc _ u) (fun t u => [u.1.length < 4611686018427387904, ∀ o ∈ u.1, o.Fine])
 (fun _ _ _ => rfl) (fun t u => by kernel_rfl) (fun t u => by kernel_rfl) (fun t u h => bind_world_any_3F_tr t.2.1 u.1 u.2.1 (h _ List.mem_cons_self) (h _ (List.mem_cons_of_mem _ List.mem_cons_self)))
noncomputable def E_bind_world_some_7 : Env := envOf (P := Tryz.prog) [] [] [] ckf
def bind_world_some_7F (a1 : Int) (b0 : List XObj) (b1 : ByteArray) : Int :=
 a1
def bind_world_some_7R (a1 : Int) (b0 : List XObj) (b1 : ByteArray) : RT :=
 (.leaf .ret ⟨slots 8 [(6, .fn 41 [.ptr 2 0, .ptr 3 0, .ptr 4 0])], [.vec true ⟨.obj, b0⟩, .cells 9 [.str b1], .cells 67 [.vec 0], .cells 27 [.int .u8 a1], .cells 73 [.fn 34 [.ptr 1 0]]]⟩ [])
theorem bind_world_some_7F_tr (a1 : Int) (b0 : List XObj) (b1 : ByteArray)  : Tr Tryz.prog 2 (bodyOf Tryz.f20) (fnBegins Tryz.f20 [.agg [.vec 0], .int .u8 a1, .fn 34 [.ptr 1 0]] [.vec true ⟨.obj, b0⟩, .cells 9 [.str b1]]) (fnEnds Tryz.prog Tryz.f20 (.fn 41 [.ptr 2 0, .ptr 3 0, .ptr 4 0]) [.vec true ⟨.obj, b0⟩, .cells 9 [.str b1], .cells 67 [.vec 0], .cells 27 [.int .u8 (bind_world_some_7F a1 b0 b1)], .cells 73 [.fn 34 [.ptr 1 0]]]) := by
 refine Tr_tree (kok _ _ _ _ _ _) (E := E_bind_world_some_7) (L := noLoops) 60 9999 LoopsOk.none (bind_world_some_7R a1 b0 b1) (by kernel_rfl) (by kernel_rfl) (by kernel_rfl) ?_
 unfold bind_world_some_7R
 exact ⟨trivial, .inl (by kernel_rfl), by kernel_rfl⟩
noncomputable def bind_world_some_7_fact0 : Fact Tryz.prog := factOf 20 Tryz.f20 (by kernel_rfl) rfl (by kernel_rfl) [.agg [.vec 0], .c (.int .u8), .fn 34 [.ptr 1 0]] [.vec true .obj, .cells 9 [.str]] false (fun t u => .fn 41 [.ptr 2 0, .ptr 3 0, .ptr 4 0]) (fun t u => [.vec true ⟨.obj, u.1⟩, .cells 9 [.str u.2.1.1], .cells 67 [.vec 0], .cells 27 [.int .u8 (bind_world_some_7F t.2.1 u.1 u.2.1.1)], .cells 73 [.fn 34 [.ptr 1 0]]]) (fun t u => [])
 (nofun) (fun t u => by kernel_rfl) (fun t u => by kernel_rfl) (fun t u h => bind_world_some_7F_tr t.2.1 u.1 u.2.1.1 )
noncomputable def bind_world_some_7_fact : Fact Tryz.prog := factThin bind_world_some_7_fact0 [.agg [.vec 0], .c (.int .u8), .fn 34 [.ptr 1 0]] [.vec true .obj, .cells 9 [.str]] (fun t u => .fn 41 [.ptr 2 0, .ptr 3 0, .ptr 4 0]) (fun t u => [.vec true ⟨.obj, u.1⟩, .cells 9 [.str u.2.1.1], .cells 67 [.vec 0], .cells 27 [.int .u8 (bind_world_some_7F t.2.1 u.1 u.2.1.1)], .cells 73 [.fn 34 [.ptr 1 0]]]) (fun t u => []) rfl [0, 1] (by
 intro t u k hk
 simp only [List.mem_cons, List.not_mem_nil, or_false] at hk
 rcases hk with rfl | rfl
 all_goals exact ⟨by decide, rfl⟩)
noncomputable def E_bind_Volume_2 : Env := envOf (P := Tryz.prog) [] [] [] ckf
def bind_Volume_2F (a0 : XObj) (b0 : ByteArray) : Bool :=
 decide (a0.volume = b0)
def bind_Volume_2R (a0 : XObj) (b0 : ByteArray) : RT :=
 (.leaf .ret ⟨slots 8 [(3, .bool (decide (a0.volume = b0)))], [.cells 9 [.str b0]]⟩ [])
theorem bind_Volume_2F_tr (a0 : XObj) (b0 : ByteArray)  : Tr Tryz.prog 1 (bodyOf Tryz.f34) (fnBegins Tryz.f34 [.agg (oc a0), .ptr 0 0] [.cells 9 [.str b0]]) (fnEnds Tryz.prog Tryz.f34 (.bool (bind_Volume_2F a0 b0)) [.cells 9 [.str b0]]) := by
 refine Tr_tree (kok _ _ _ _ _ _) (E := E_bind_Volume_2) (L := noLoops) 60 9999 LoopsOk.none (bind_Volume_2R a0 b0) (by kernel_rfl) (by kernel_rfl) (by kernel_rfl) ?_
 unfold bind_Volume_2R
 exact ⟨trivial, .inl (by kernel_rfl), by kernel_rfl⟩
noncomputable def bind_Volume_2_fact : Fact Tryz.prog := factOf 34 Tryz.f34 (by kernel_rfl) rfl (by kernel_rfl) [.st .obj, .c (.ptr 0 0)] [.cells 9 [.str]] true (fun t u => .bool (bind_Volume_2F t.1 u.1.1)) (fun t u => HPL.enc _ u) (fun t u => [])
 (fun _ _ _ => rfl) (fun t u => by kernel_rfl) (fun t u => by kernel_rfl) (fun t u h => bind_Volume_2F_tr t.1 u.1.1 )
noncomputable def E_bind_world_any_4_it : Env := envOf (P := Tryz.prog) [bind_Volume_2_fact] [] [] ckf false [bind_world_any_r_fact]
def bind_world_any_4_itLF (a1 : Int) (b0 : List XObj) (b1 : ByteArray) : List XObj → Bool
 | [] => false
 | o :: r => cond (cond ((o.kind) == (bind_world_some_7F a1 b0 b1)) (bind_Volume_2F o b1) false)
  true
  (bind_world_any_4_itLF a1 b0 b1 r)
def bind_world_any_4_itLS (a1 : Int) (b0 : List XObj) (b1 : ByteArray) (i : Nat) : St :=
 ⟨slots 30 [(0, .yld 6), (2, .ptr 4 0), (3, .ptr 5 0), (8, .vec 0), (9, .int .i64 (b0.length : Int)), (10, .int .i64 (i : Int))], [.vec true ⟨.obj, b0⟩, .cells 9 [.str b1], .cells 4 [.bool false], .cells 67 [.vec 0], .cells 27 [.int .u8 (bind_world_some_7F a1 b0 b1)], .cells 73 [.fn 34 [.ptr 1 0]], .loop 1 (slots 12 [(6, .ptr 2 0)]) none]⟩
def bind_world_any_4_itLR (a1 : Int) (b0 : List XObj) (b1 : ByteArray) (i : Nat) : RT :=
 (.ask (decide ((i : Int) < (b0.length : Int)))
   (.need [0 ≤ (i : Int) ∧ (i : Int) < (b0.length : Int)]
     (.ask (cond (((b0.getD i default).kind) == (bind_world_some_7F a1 b0 b1)) (bind_Volume_2F (b0.getD i default) b1) false)
       (.ask true
         (.ask true
           (.leaf .ret ⟨slots 30 [], [.vec true ⟨.obj, b0⟩, .cells 9 [.str b1], .cells 4 [.bool true], .cells 67 [.vec 0], .cells 27 [.int .u8 (bind_world_some_7F a1 b0 b1)], .cells 73 [.fn 34 [.ptr 1 0]], .loop 1 (slots 12 [(6, .ptr 2 0)]) (some (.ret))]⟩ [])
           .fail)
         .fail)
       (.ask false
         .fail
         (.leaf .normal ⟨slots 30 [(0, .yld 6), (2, .ptr 4 0), (3, .ptr 5 0), (8, .vec 0), (9, .int .i64 (b0.length : Int)), (10, .int .i64 (IntKind.i64.wrap ((i : Int) + (1 : Int))))], [.vec true ⟨.obj, b0⟩, .cells 9 [.str b1], .cells 4 [.bool false], .cells 67 [.vec 0], .cells 27 [.int .u8 (bind_world_some_7F a1 b0 b1)], .cells 73 [.fn 34 [.ptr 1 0]], .loop 1 (slots 12 [(6, .ptr 2 0)]) none]⟩ []))))
   (.leaf (.exit 0) ⟨slots 30 [], [.vec true ⟨.obj, b0⟩, .cells 9 [.str b1], .cells 4 [.bool false], .cells 67 [.vec 0], .cells 27 [.int .u8 (bind_world_some_7F a1 b0 b1)], .cells 73 [.fn 34 [.ptr 1 0]], .loop 1 (slots 12 [(6, .ptr 2 0)]) none]⟩ []))
def bind_world_any_4_itLT (a1 : Int) (b0 : List XObj) (b1 : ByteArray) (i : Nat) : Tree :=
 .ask (bind_world_any_4_itLF a1 b0 b1 (b0.drop i)) (.leaf .ret ⟨slots 30 [], [.vec true ⟨.obj, b0⟩, .cells 9 [.str b1], .cells 4 [.bool true], .cells 67 [.vec 0], .cells 27 [.int .u8 (bind_world_some_7F a1 b0 b1)], .cells 73 [.fn 34 [.ptr 1 0]], .loop 1 (slots 12 [(6, .ptr 2 0)]) (some (.ret))]⟩) (.leaf (.exit 0) ⟨slots 30 [], [.vec true ⟨.obj, b0⟩, .cells 9 [.str b1], .cells 4 [.bool false], .cells 67 [.vec 0], .cells 27 [.int .u8 (bind_world_some_7F a1 b0 b1)], .cells 73 [.fn 34 [.ptr 1 0]], .loop 1 (slots 12 [(6, .ptr 2 0)]) none]⟩)
theorem bind_world_any_4_itL_loop (a1 : Int) (b0 : List XObj) (b1 : ByteArray) (hp0 : b0.length < 4611686018427387904) (hp1 : ∀ o ∈ b0, o.Fine) (hlen : b0.length < 4611686018427387904) (z : { z : Nat // z ≤ b0.length }) (Q : Exit → St → Prop) (h : (bind_world_any_4_itLT a1 b0 b1 z.1).All Q) : Tr Tryz.prog 7 (.loop (loopAt Tryz.f41 0)) (bind_world_any_4_itLS a1 b0 b1 z.1) Q := by
 refine Tr_loopT (kok _ _ _ _ _ _) (E := E_bind_world_any_4_it) (ι := { z : Nat // z ≤ b0.length }) 60 0 (fun _ => noLoops) (fun z => bind_world_any_4_itLS a1 b0 b1 z.1) (fun z => bind_world_any_4_itLT a1 b0 b1 z.1) (fun z => bind_world_any_4_itLR a1 b0 b1 z.1) (fun z => b0.length - z.1) (fun _ => LoopsOk.none) (fun z => by obtain ⟨i, hi⟩ := z; kernel_rfl) (fun z => by obtain ⟨i, hi⟩ := z; kernel_rfl) (fun z => by obtain ⟨i, hi⟩ := z; kernel_rfl) ?_ z Q h
 rintro ⟨i, hi⟩ Q hT
 replace hT : (bind_world_any_4_itLT a1 b0 b1 i).All Q := hT
 replace hi : i ≤ b0.length := hi
 show (bind_world_any_4_itLR a1 b0 b1 i).All _
 unfold bind_world_any_4_itLR
 refine ⟨fun h0 => ?_, fun h0 => ?_⟩
 · have hlt : i < b0.length := by simpa using h0
   have hd := drop_getD hlt
   have hw := wrap_succ (i := i) (by omega)
   refine ⟨need_cons (by first | assumption | omega | (intro; omega) | (simp only [decide_eq_true_eq, decide_eq_false_iff_not, Bool.cond_false_right, Bool.cond_true_right, Bool.cond_true_left, Bool.cond_false_left, Bool.and_eq_true, Bool.or_eq_true, Bool.not_eq_true', bytesLim, maxLen, List.length_cons, List.length_nil, List.length_append, byteSize_lit] at *; omega) | (intro; simp only [decide_eq_true_eq, decide_eq_false_iff_not, Bool.cond_false_right, Bool.cond_true_right, Bool.cond_true_left, Bool.cond_false_left, Bool.and_eq_true, Bool.or_eq_true, Bool.not_eq_true', bytesLim, maxLen, List.length_cons, List.length_nil, List.length_append, byteSize_lit] at *; omega)) (need_nil), ?_⟩
   refine ⟨fun h1 => ?_, fun h1 => ?_⟩
   · refine ⟨fun h2 => ?_, fun h2 => ?_⟩
     · refine ⟨fun h3 => ?_, fun h3 => ?_⟩
       · have hF : bind_world_any_4_itLF a1 b0 b1 (b0.drop i) = true := by rw [hd]; first | exact (cond_t h1 (cond_t h2 (cond_t h3 rfl))) | simp only [bind_world_any_4_itLF, h0, h1, h2, h3, cond_true, cond_false]
         unfold bind_world_any_4_itLT at hT
         rw [hF] at hT
         exact hT.1 rfl
       · exact absurd h3 (by simp)
     · exact absurd h2 (by simp)
   · refine ⟨fun h2 => ?_, fun h2 => ?_⟩
     · exact absurd h2 (by simp)
     · have hF : bind_world_any_4_itLF a1 b0 b1 (b0.drop i) = bind_world_any_4_itLF a1 b0 b1 (b0.drop (i + 1)) := by rw [hd]; first | exact (cond_f h1 (cond_f h2 rfl)) | simp only [bind_world_any_4_itLF, h0, h1, h2, cond_true, cond_false]
       refine ⟨⟨(i + 1), by show (i + 1) ≤ b0.length; omega⟩, by show b0.length - (i + 1) < b0.length - i; omega, ?_, ?_⟩
       · show _ = bind_world_any_4_itLS a1 b0 b1 (i + 1)
         unfold bind_world_any_4_itLS
         simp only [hw]
       · show (bind_world_any_4_itLT a1 b0 b1 (i + 1)).All Q
         unfold bind_world_any_4_itLT at hT ⊢
         rw [hF] at hT
         exact hT
 · have hge : ¬ i < b0.length := by simpa using h0
   have hd : b0.drop i = [] := List.drop_eq_nil_of_le (by omega)
   have hF : bind_world_any_4_itLF a1 b0 b1 (b0.drop i) = false := by rw [hd]; first | exact rfl | simp only [bind_world_any_4_itLF, h0, cond_true, cond_false]
   unfold bind_world_any_4_itLT at hT
   rw [hF] at hT
   exact hT.2 rfl
def bind_world_any_4_itS (a1 : Int) (b0 : List XObj) (b1 : ByteArray) : St :=
 ⟨slots 12 [(6, .ptr 2 0), (10, .fn 41 [.ptr 3 0, .ptr 4 0, .ptr 5 0])], [.vec true ⟨.obj, b0⟩, .cells 9 [.str b1], .cells 4 [.bool false], .cells 67 [.vec 0], .cells 27 [.int .u8 (bind_world_some_7F a1 b0 b1)], .cells 73 [.fn 34 [.ptr 1 0]]]⟩
def bind_world_any_4_itF (a1 : Int) (b0 : List XObj) (b1 : ByteArray) : Bool :=
 cond (bind_world_any_4_itLF a1 b0 b1 b0)
  true
  false
def bind_world_any_4_itR (a1 : Int) (b0 : List XObj) (b1 : ByteArray) : RT :=
 (.ask (bind_world_any_4_itLF a1 b0 b1 b0)
   (.leaf .ret ⟨slots 30 [], [.vec true ⟨.obj, b0⟩, .cells 9 [.str b1], .cells 4 [.bool true], .cells 67 [.vec 0], .cells 27 [.int .u8 (bind_world_some_7F a1 b0 b1)], .cells 73 [.fn 34 [.ptr 1 0]], .loop 1 (slots 12 [(6, .ptr 2 0)]) (some (.ret))]⟩ [])
   (.leaf .normal ⟨slots 30 [], [.vec true ⟨.obj, b0⟩, .cells 9 [.str b1], .cells 4 [.bool false], .cells 67 [.vec 0], .cells 27 [.int .u8 (bind_world_some_7F a1 b0 b1)], .cells 73 [.fn 34 [.ptr 1 0]], .loop 1 (slots 12 [(6, .ptr 2 0)]) none]⟩ []))
def bind_world_any_4_itT (a1 : Int) (b0 : List XObj) (b1 : ByteArray) : Tree :=
 .ask (bind_world_any_4_itF a1 b0 b1) (.leaf .ret ⟨slots 12 [(6, .ptr 2 0), (10, .fn 41 [.ptr 3 0, .ptr 4 0, .ptr 5 0])], [.vec true ⟨.obj, b0⟩, .cells 9 [.str b1], .cells 4 [.bool true], .cells 67 [.vec 0], .cells 27 [.int .u8 (bind_world_some_7F a1 b0 b1)], .cells 73 [.fn 34 [.ptr 1 0]], .dead]⟩) (.leaf .normal ⟨slots 12 [(6, .ptr 2 0), (10, .fn 41 [.ptr 3 0, .ptr 4 0, .ptr 5 0])], [.vec true ⟨.obj, b0⟩, .cells 9 [.str b1], .cells 4 [.bool false], .cells 67 [.vec 0], .cells 27 [.int .u8 (bind_world_some_7F a1 b0 b1)], .cells 73 [.fn 34 [.ptr 1 0]], .dead]⟩)
theorem bind_world_any_4_it_rg (a1 : Int) (b0 : List XObj) (b1 : ByteArray) (hp0 : b0.length < 4611686018427387904) (hp1 : ∀ o ∈ b0, o.Fine) (Q : Exit → St → Prop) (hT : (bind_world_any_4_itT a1 b0 b1).All Q) : Tr Tryz.prog 2 (loopAt Tryz.f16 0) (bind_world_any_4_itS a1 b0 b1) Q := by
 have hc : loopAt Tryz.f16 0 = .rangeFunc (.tmp 10) (Globs.site 1).1 (Globs.site 1).2.1 (Globs.site 1).2.2 := by kernel_rfl
 rw [hc]
 refine Tr_range (site := 1) (gf := 41) (fn := Tryz.f41) (c := bodyOf Tryz.f41) (cap := [.ptr 3 0, .ptr 4 0, .ptr 5 0]) 6 [6] (slots 12 [(6, .ptr 2 0)]) [.yld 6, .ptr 3 0, .ptr 4 0, .ptr 5 0] [.vec true ⟨.obj, b0⟩, .cells 9 [.str b1], .cells 4 [.bool false], .cells 67 [.vec 0], .cells 27 [.int .u8 (bind_world_some_7F a1 b0 b1)], .cells 73 [.fn 34 [.ptr 1 0]], .loop 1 (slots 12 [(6, .ptr 2 0)]) none] rfl (by kernel_rfl) (by kernel_rfl) rfl (by kernel_rfl) (by kernel_rfl) (by kernel_rfl) (by kernel_rfl) (by kernel_rfl) (by kernel_rfl) (by kernel_rfl) (by kernel_rfl) ?_
 refine Tr_tree (kok _ _ _ _ _ _) (E := E_bind_world_any_4_it) (L := (loopsOf [(0, bind_world_any_4_itLS a1 b0 b1 0, [], bind_world_any_4_itLT a1 b0 b1 0)])) 60 9999 (LoopsOk.one (g := loopAt Tryz.f41 0) (b := 0) (by kernel_rfl) (by kernel_rfl) (by kernel_rfl) (by kernel_rfl) (fun Q h => bind_world_any_4_itL_loop a1 b0 b1 hp0 hp1 (by first | assumption | omega | exact of_short _ (by first | assumption | omega | exact Nat.le_trans (w12_few_len _) (by decide)) | exact r12_Uniq_short _ (by first | assumption | omega | exact Nat.le_trans (w12_few_len _) (by decide)) | exact Nat.lt_of_le_of_lt (w12_few_len _) (by decide) | decide | (simp only [List.length_append, List.length_cons, List.length_nil]; have := w12_few_len a0; omega)) ⟨0, by first | exact Nat.zero_le _ | (show 0 ≤ b0.length; omega) | (show 0 ≤ b0.length; exact ⟨Nat.zero_le _, by assumption⟩) | (show 0 ≤ b0.length; simp)⟩ Q h)) (bind_world_any_4_itR a1 b0 b1) (by kernel_rfl) (by kernel_rfl) (by kernel_rfl) ?_
 unfold bind_world_any_4_itR
 refine ⟨fun h0 => ?_, fun h0 => ?_⟩
 · have hF : bind_world_any_4_itF a1 b0 b1 = true := by first | exact (cond_t h0 rfl) | simp only [bind_world_any_4_itF, h0, cond_true, cond_false]
   unfold bind_world_any_4_itT at hT
   rw [hF] at hT
   exact ⟨⟨trivial, .tup [], by kernel_rfl⟩, (some (.ret)), [.vec true ⟨.obj, b0⟩, .cells 9 [.str b1], .cells 4 [.bool true], .cells 67 [.vec 0], .cells 27 [.int .u8 (bind_world_some_7F a1 b0 b1)], .cells 73 [.fn 34 [.ptr 1 0]], .dead], by kernel_rfl, rfl, by kernel_rfl, by kernel_rfl, by kernel_rfl, by kernel_rfl, hT.1 rfl⟩
 · have hF : bind_world_any_4_itF a1 b0 b1 = false := by first | exact (cond_f h0 rfl) | simp only [bind_world_any_4_itF, h0, cond_true, cond_false]
   unfold bind_world_any_4_itT at hT
   rw [hF] at hT
   exact ⟨⟨trivial, .tup [], by kernel_rfl⟩, none, [.vec true ⟨.obj, b0⟩, .cells 9 [.str b1], .cells 4 [.bool false], .cells 67 [.vec 0], .cells 27 [.int .u8 (bind_world_some_7F a1 b0 b1)], .cells 73 [.fn 34 [.ptr 1 0]], .dead], by kernel_rfl, rfl, by kernel_rfl, by kernel_rfl, by kernel_rfl, by kernel_rfl, hT.2 rfl⟩
noncomputable def E_bind_world_any_4 : Env := envOf (P := Tryz.prog) [bind_world_some_7_fact] [] [] ckf
def bind_world_any_4F (a1 : Int) (b0 : List XObj) (b1 : ByteArray) : Bool :=
 cond (bind_world_any_4_itF a1 b0 b1)
  true
  false
def bind_world_any_4R (a1 : Int) (b0 : List XObj) (b1 : ByteArray) : RT :=
 (.ask (bind_world_any_4_itF a1 b0 b1)
   (.leaf .ret ⟨slots 12 [(6, .ptr 2 0)], [.vec true ⟨.obj, b0⟩, .cells 9 [.str b1], .cells 4 [.bool true]]⟩ [])
   (.leaf .ret ⟨slots 12 [(6, .ptr 2 0)], [.vec true ⟨.obj, b0⟩, .cells 9 [.str b1], .cells 4 [.bool false]]⟩ []))
theorem bind_world_any_4F_tr (a1 : Int) (b0 : List XObj) (b1 : ByteArray) (hp0 : b0.length < 4611686018427387904) (hp1 : ∀ o ∈ b0, o.Fine) : Tr Tryz.prog 2 (bodyOf Tryz.f16) (fnBegins Tryz.f16 [.agg [.vec 0], .int .u8 a1, .fn 34 [.ptr 1 0]] [.vec true ⟨.obj, b0⟩, .cells 9 [.str b1]]) (fnEnds Tryz.prog Tryz.f16 (.bool (bind_world_any_4F a1 b0 b1)) [.vec true ⟨.obj, b0⟩, .cells 9 [.str b1]]) := by
 refine Tr_tree (kok _ _ _ _ _ _) (E := E_bind_world_any_4) (L := (loopsOf [(0, bind_world_any_4_itS a1 b0 b1, [0, 1, 3, 4, 5, 6], bind_world_any_4_itT a1 b0 b1)])) 60 9999 (LoopsOk.oneR (g := loopAt Tryz.f16 0) (b := 0) (by kernel_rfl) (by kernel_rfl) (by kernel_rfl) (by kernel_rfl) (fun Q h => bind_world_any_4_it_rg a1 b0 b1 hp0 hp1 Q h)) (bind_world_any_4R a1 b0 b1) (by kernel_rfl) (by kernel_rfl) (by kernel_rfl) ?_
 unfold bind_world_any_4R
 refine ⟨fun h0 => ?_, fun h0 => ?_⟩
 · have hF : bind_world_any_4F a1 b0 b1 = true := by first | exact (cond_t h0 rfl) | simp only [bind_world_any_4F, h0, cond_true, cond_false]
   exact ⟨trivial, .inl (by first | (rw [hF]; kernel_rfl) | kernel_rfl), by first | (rw [hF]; kernel_rfl) | kernel_rfl⟩
 · have hF : bind_world_any_4F a1 b0 b1 = false := by first | exact (cond_f h0 rfl) | simp only [bind_world_any_4F, h0, cond_true, cond_false]
   exact ⟨trivial, .inl (by first | (rw [hF]; kernel_rfl) | kernel_rfl), by first | (rw [hF]; kernel_rfl) | kernel_rfl⟩
noncomputable def bind_world_any_4_fact : Fact Tryz.prog := factOf 16 Tryz.f16 (by kernel_rfl) rfl (by kernel_rfl) [.agg [.vec 0], .c (.int .u8), .fn 34 [.ptr 1 0]] [.vec true .obj, .cells 9 [.str]] true (fun t u => .bool (bind_world_any_4F t.2.1 u.1 u.2.1.1)) (fun t u => HPL.enc _ u) (fun t u => [u.1.length < 4611686018427387904, ∀ o ∈ u.1, o.Fine])
 (fun _ _ _ => rfl) (fun t u => by kernel_rfl) (fun t u => by kernel_rfl) (fun t u h => bind_world_any_4F_tr t.2.1 u.1 u.2.1.1 (h _ List.mem_cons_self) (h _ (List.mem_cons_of_mem _ List.mem_cons_self)))
noncomputable def E_bind_world_some_8 : Env := envOf (P := Tryz.prog) [] [] [] ckf
def bind_world_some_8F (a1 : Int) (b0 : List XObj) (b1 : ByteArray) : Int :=
 a1
def bind_world_some_8R (a1 : Int) (b0 : List XObj) (b1 : ByteArray) : RT :=
 (.leaf .ret ⟨slots 8 [(6, .fn 41 [.ptr 2 0, .ptr 3 0, .ptr 4 0])], [.vec true ⟨.obj, b0⟩, .cells 9 [.str b1], .cells 67 [.vec 0], .cells 27 [.int .u8 a1], .cells 73 [.fn 35 [.ptr 1 0]]]⟩ [])
theorem bind_world_some_8F_tr (a1 : Int) (b0 : List XObj) (b1 : ByteArray)  : Tr Tryz.prog 2 (bodyOf Tryz.f20) (fnBegins Tryz.f20 [.agg [.vec 0], .int .u8 a1, .fn 35 [.ptr 1 0]] [.vec true ⟨.obj, b0⟩, .cells 9 [.str b1]]) (fnEnds Tryz.prog Tryz.f20 (.fn 41 [.ptr 2 0, .ptr 3 0, .ptr 4 0]) [.vec true ⟨.obj, b0⟩, .cells 9 [.str b1], .cells 67 [.vec 0], .cells 27 [.int .u8 (bind_world_some_8F a1 b0 b1)], .cells 73 [.fn 35 [.ptr 1 0]]]) := by
 refine Tr_tree (kok _ _ _ _ _ _) (E := E_bind_world_some_8) (L := noLoops) 60 9999 LoopsOk.none (bind_world_some_8R a1 b0 b1) (by kernel_rfl) (by kernel_rfl) (by kernel_rfl) ?_
 unfold bind_world_some_8R
 exact ⟨trivial, .inl (by kernel_rfl), by kernel_rfl⟩
noncomputable def bind_world_some_8_fact0 : Fact Tryz.prog := factOf 20 Tryz.f20 (by kernel_rfl) rfl (by kernel_rfl) [.agg [.vec 0], .c (.int .u8), .fn 35 [.ptr 1 0]] [.vec true .obj, .cells 9 [.str]] false (fun t u => .fn 41 [.ptr 2 0, .ptr 3 0, .ptr 4 0]) (fun t u => [.vec true ⟨.obj, u.1⟩, .cells 9 [.str u.2.1.1], .cells 67 [.vec 0], .cells 27 [.int .u8 (bind_world_some_8F t.2.1 u.1 u.2.1.1)], .cells 73 [.fn 35 [.ptr 1 0]]]) (fun t u => [])
 (nofun) (fun t u => by kernel_rfl) (fun t u => by kernel_rfl) (fun t u h => bind_world_some_8F_tr t.2.1 u.1 u.2.1.1 )
noncomputable def bind_world_some_8_fact : Fact Tryz.prog := factThin bind_world_some_8_fact0 [.agg [.vec 0], .c (.int .u8), .fn 35 [.ptr 1 0]] [.vec true .obj, .cells 9 [.str]] (fun t u => .fn 41 [.ptr 2 0, .ptr 3 0, .ptr 4 0]) (fun t u => [.vec true ⟨.obj, u.1⟩, .cells 9 [.str u.2.1.1], .cells 67 [.vec 0], .cells 27 [.int .u8 (bind_world_some_8F t.2.1 u.1 u.2.1.1)], .cells 73 [.fn 35 [.ptr 1 0]]]) (fun t u => []) rfl [0, 1] (by
 intro t u k hk
 simp only [List.mem_cons, List.not_mem_nil, or_false] at hk
 rcases hk with rfl | rfl
 all_goals exact ⟨by decide, rfl⟩)
noncomputable def E_bind_Volume_3 : Env := envOf (P := Tryz.prog) [] [] [] ckf
def bind_Volume_3F (a0 : XObj) (b0 : ByteArray) : Bool :=
 cond (a0.phase == (10 : Int)) (decide (a0.volume = b0)) false
def bind_Volume_3R (a0 : XObj) (b0 : ByteArray) : RT :=
 (.leaf .ret ⟨slots 13 [(3, .bool (cond (a0.phase == (10 : Int)) (decide (a0.volume = b0)) false))], [.cells 9 [.str b0]]⟩ [])
theorem bind_Volume_3F_tr (a0 : XObj) (b0 : ByteArray)  : Tr Tryz.prog 1 (bodyOf Tryz.f35) (fnBegins Tryz.f35 [.agg (oc a0), .ptr 0 0] [.cells 9 [.str b0]]) (fnEnds Tryz.prog Tryz.f35 (.bool (bind_Volume_3F a0 b0)) [.cells 9 [.str b0]]) := by
 refine Tr_tree (kok _ _ _ _ _ _) (E := E_bind_Volume_3) (L := noLoops) 60 9999 LoopsOk.none (bind_Volume_3R a0 b0) (by kernel_rfl) (by kernel_rfl) (by kernel_rfl) ?_
 unfold bind_Volume_3R
 exact ⟨trivial, .inl (by kernel_rfl), by kernel_rfl⟩
noncomputable def bind_Volume_3_fact : Fact Tryz.prog := factOf 35 Tryz.f35 (by kernel_rfl) rfl (by kernel_rfl) [.st .obj, .c (.ptr 0 0)] [.cells 9 [.str]] true (fun t u => .bool (bind_Volume_3F t.1 u.1.1)) (fun t u => HPL.enc _ u) (fun t u => [])
 (fun _ _ _ => rfl) (fun t u => by kernel_rfl) (fun t u => by kernel_rfl) (fun t u h => bind_Volume_3F_tr t.1 u.1.1 )
noncomputable def E_bind_world_any_5_it : Env := envOf (P := Tryz.prog) [bind_Volume_3_fact] [] [] ckf false [bind_world_any_r_fact]
def bind_world_any_5_itLF (a1 : Int) (b0 : List XObj) (b1 : ByteArray) : List XObj → Bool
 | [] => false
 | o :: r => cond (cond ((o.kind) == (bind_world_some_8F a1 b0 b1)) (bind_Volume_3F o b1) false)
  true
  (bind_world_any_5_itLF a1 b0 b1 r)
def bind_world_any_5_itLS (a1 : Int) (b0 : List XObj) (b1 : ByteArray) (i : Nat) : St :=
 ⟨slots 30 [(0, .yld 6), (2, .ptr 4 0), (3, .ptr 5 0), (8, .vec 0), (9, .int .i64 (b0.length : Int)), (10, .int .i64 (i : Int))], [.vec true ⟨.obj, b0⟩, .cells 9 [.str b1], .cells 4 [.bool false], .cells 67 [.vec 0], .cells 27 [.int .u8 (bind_world_some_8F a1 b0 b1)], .cells 73 [.fn 35 [.ptr 1 0]], .loop 1 (slots 12 [(6, .ptr 2 0)]) none]⟩
def bind_world_any_5_itLR (a1 : Int) (b0 : List XObj) (b1 : ByteArray) (i : Nat) : RT :=
 (.ask (decide ((i : Int) < (b0.length : Int)))
   (.need [0 ≤ (i : Int) ∧ (i : Int) < (b0.length : Int)]
     (.ask (cond (((b0.getD i default).kind) == (bind_world_some_8F a1 b0 b1)) (bind_Volume_3F (b0.getD i default) b1) false)
       (.ask true
         (.ask true
           (.leaf .ret ⟨slots 30 [], [.vec true ⟨.obj, b0⟩, .cells 9 [.str b1], .cells 4 [.bool true], .cells 67 [.vec 0], .cells 27 [.int .u8 (bind_world_some_8F a1 b0 b1)], .cells 73 [.fn 35 [.ptr 1 0]], .loop 1 (slots 12 [(6, .ptr 2 0)]) (some (.ret))]⟩ [])
           .fail)
         .fail)
       (.ask false
         .fail
         (.leaf .normal ⟨slots 30 [(0, .yld 6), (2, .ptr 4 0), (3, .ptr 5 0), (8, .vec 0), (9, .int .i64 (b0.length : Int)), (10, .int .i64 (IntKind.i64.wrap ((i : Int) + (1 : Int))))], [.vec true ⟨.obj, b0⟩, .cells 9 [.str b1], .cells 4 [.bool false], .cells 67 [.vec 0], .cells 27 [.int .u8 (bind_world_some_8F a1 b0 b1)], .cells 73 [.fn 35 [.ptr 1 0]], .loop 1 (slots 12 [(6, .ptr 2 0)]) none]⟩ []))))
   (.leaf (.exit 0) ⟨slots 30 [], [.vec true ⟨.obj, b0⟩, .cells 9 [.str b1], .cells 4 [.bool false], .cells 67 [.vec 0], .cells 27 [.int .u8 (bind_world_some_8F a1 b0 b1)], .cells 73 [.fn 35 [.ptr 1 0]], .loop 1 (slots 12 [(6, .ptr 2 0)]) none]⟩ []))
def bind_world_any_5_itLT (a1 : Int) (b0 : List XObj) (b1 : ByteArray) (i : Nat) : Tree :=
 .ask (bind_world_any_5_itLF a1 b0 b1 (b0.drop i)) (.leaf .ret ⟨slots 30 [], [.vec true ⟨.obj, b0⟩, .cells 9 [.str b1], .cells 4 [.bool true], .cells 67 [.vec 0], .cells 27 [.int .u8 (bind_world_some_8F a1 b0 b1)], .cells 73 [.fn 35 [.ptr 1 0]], .loop 1 (slots 12 [(6, .ptr 2 0)]) (some (.ret))]⟩) (.leaf (.exit 0) ⟨slots 30 [], [.vec true ⟨.obj, b0⟩, .cells 9 [.str b1], .cells 4 [.bool false], .cells 67 [.vec 0], .cells 27 [.int .u8 (bind_world_some_8F a1 b0 b1)], .cells 73 [.fn 35 [.ptr 1 0]], .loop 1 (slots 12 [(6, .ptr 2 0)]) none]⟩)
theorem bind_world_any_5_itL_loop (a1 : Int) (b0 : List XObj) (b1 : ByteArray) (hp0 : b0.length < 4611686018427387904) (hp1 : ∀ o ∈ b0, o.Fine) (hlen : b0.length < 4611686018427387904) (z : { z : Nat // z ≤ b0.length }) (Q : Exit → St → Prop) (h : (bind_world_any_5_itLT a1 b0 b1 z.1).All Q) : Tr Tryz.prog 7 (.loop (loopAt Tryz.f41 0)) (bind_world_any_5_itLS a1 b0 b1 z.1) Q := by
 refine Tr_loopT (kok _ _ _ _ _ _) (E := E_bind_world_any_5_it) (ι := { z : Nat // z ≤ b0.length }) 60 0 (fun _ => noLoops) (fun z => bind_world_any_5_itLS a1 b0 b1 z.1) (fun z => bind_world_any_5_itLT a1 b0 b1 z.1) (fun z => bind_world_any_5_itLR a1 b0 b1 z.1) (fun z => b0.length - z.1) (fun _ => LoopsOk.none) (fun z => by obtain ⟨i, hi⟩ := z; kernel_rfl) (fun z => by obtain ⟨i, hi⟩ := z; kernel_rfl) (fun z => by obtain ⟨i, hi⟩ := z; kernel_rfl) ?_ z Q h
 rintro ⟨i, hi⟩ Q hT
 replace hT : (bind_world_any_5_itLT a1 b0 b1 i).All Q := hT
 replace hi : i ≤ b0.length := hi
 show (bind_world_any_5_itLR a1 b0 b1 i).All _
 unfold bind_world_any_5_itLR
 refine ⟨fun h0 => ?_, fun h0 => ?_⟩
 · have hlt : i < b0.length := by simpa using h0
   have hd := drop_getD hlt
   have hw := wrap_succ (i := i) (by omega)
   refine ⟨need_cons (by first | assumption | omega | (intro; omega) | (simp only [decide_eq_true_eq, decide_eq_false_iff_not, Bool.cond_false_right, Bool.cond_true_right, Bool.cond_true_left, Bool.cond_false_left, Bool.and_eq_true, Bool.or_eq_true, Bool.not_eq_true', bytesLim, maxLen, List.length_cons, List.length_nil, List.length_append, byteSize_lit] at *; omega) | (intro; simp only [decide_eq_true_eq, decide_eq_false_iff_not, Bool.cond_false_right, Bool.cond_true_right, Bool.cond_true_left, Bool.cond_false_left, Bool.and_eq_true, Bool.or_eq_true, Bool.not_eq_true', bytesLim, maxLen, List.length_cons, List.length_nil, List.length_append, byteSize_lit] at *; omega)) (need_nil), ?_⟩
   refine ⟨fun h1 => ?_, fun h1 => ?_⟩
   · refine ⟨fun h2 => ?_, fun h2 => ?_⟩
     · refine ⟨fun h3 => ?_, fun h3 => ?_⟩
       · have hF : bind_world_any_5_itLF a1 b0 b1 (b0.drop i) = true := by rw [hd]; first | exact (cond_t h1 (cond_t h2 (cond_t h3 rfl))) | simp only [bind_world_any_5_itLF, h0, h1, h2, h3, cond_true, cond_false]
         unfold bind_world_any_5_itLT at hT
         rw [hF] at hT
         exact hT.1 rfl
       · exact absurd h3 (by simp)
     · exact absurd h2 (by simp)
   · refine ⟨fun h2 => ?_, fun h2 => ?_⟩
     · exact absurd h2 (by simp)
     · have hF : bind_world_any_5_itLF a1 b0 b1 (b0.drop i) = bind_world_any_5_itLF a1 b0 b1 (b0.drop (i + 1)) := by rw [hd]; first | exact (cond_f h1 (cond_f h2 rfl)) | simp only [bind_world_any_5_itLF, h0, h1, h2, cond_true, cond_false]
       refine ⟨⟨(i + 1), by show (i + 1) ≤ b0.length; omega⟩, by show b0.length - (i + 1) < b0.length - i; omega, ?_, ?_⟩
       · show _ = bind_world_any_5_itLS a1 b0 b1 (i + 1)
         unfold bind_world_any_5_itLS
         simp only [hw]
       · show (bind_world_any_5_itLT a1 b0 b1 (i + 1)).All Q
         unfold bind_world_any_5_itLT at hT ⊢
         rw [hF] at hT
         exact hT
 · have hge : ¬ i < b0.length := by simpa using h0
   have hd : b0.drop i = [] := List.drop_eq_nil_of_le (by omega)
   have hF : bind_world_any_5_itLF a1 b0 b1 (b0.drop i) = false := by rw [hd]; first | exact rfl | simp only [bind_world_any_5_itLF, h0, cond_true, cond_false]
   unfold bind_world_any_5_itLT at hT
   rw [hF] at hT
   exact hT.2 rfl
def bind_world_any_5_itS (a1 : Int) (b0 : List XObj) (b1 : ByteArray) : St :=
 ⟨slots 12 [(6, .ptr 2 0), (10, .fn 41 [.ptr 3 0, .ptr 4 0, .ptr 5 0])], [.vec true ⟨.obj, b0⟩, .cells 9 [.str b1], .cells 4 [.bool false], .cells 67 [.vec 0], .cells 27 [.int .u8 (bind_world_some_8F a1 b0 b1)], .cells 73 [.fn 35 [.ptr 1 0]]]⟩
def bind_world_any_5_itF (a1 : Int) (b0 : List XObj) (b1 : ByteArray) : Bool :=
 cond (bind_world_any_5_itLF a1 b0 b1 b0)
  true
  false
def bind_world_any_5_itR (a1 : Int) (b0 : List XObj) (b1 : ByteArray) : RT :=
 (.ask (bind_world_any_5_itLF a1 b0 b1 b0)
   (.leaf .ret ⟨slots 30 [], [.vec true ⟨.obj, b0⟩, .cells 9 [.str b1], .cells 4 [.bool true], .cells 67 [.vec 0], .cells 27 [.int .u8 (bind_world_some_8F a1 b0 b1)], .cells 73 [.fn 35 [.ptr 1 0]], .loop 1 (slots 12 [(6, .ptr 2 0)]) (some (.ret))]⟩ [])
   (.leaf .normal ⟨slots 30 [], [.vec true ⟨.obj, b0⟩, .cells 9 [.str b1], .cells 4 [.bool false], .cells 67 [.vec 0], .cells 27 [.int .u8 (bind_world_some_8F a1 b0 b1)], .cells 73 [.fn 35 [.ptr 1 0]], .loop 1 (slots 12 [(6, .ptr 2 0)]) none]⟩ []))
def bind_world_any_5_itT (a1 : Int) (b0 : List XObj) (b1 : ByteArray) : Tree :=
 .ask (bind_world_any_5_itF a1 b0 b1) (.leaf .ret ⟨slots 12 [(6, .ptr 2 0), (10, .fn 41 [.ptr 3 0, .ptr 4 0, .ptr 5 0])], [.vec true ⟨.obj, b0⟩, .cells 9 [.str b1], .cells 4 [.bool true], .cells 67 [.vec 0], .cells 27 [.int .u8 (bind_world_some_8F a1 b0 b1)], .cells 73 [.fn 35 [.ptr 1 0]], .dead]⟩) (.leaf .normal ⟨slots 12 [(6, .ptr 2 0), (10, .fn 41 [.ptr 3 0, .ptr 4 0, .ptr 5 0])], [.vec true ⟨.obj, b0⟩, .cells 9 [.str b1], .cells 4 [.bool false], .cells 67 [.vec 0], .cells 27 [.int .u8 (bind_world_some_8F a1 b0 b1)], .cells 73 [.fn 35 [.ptr 1 0]], .dead]⟩)
theorem bind_world_any_5_it_rg (a1 : Int) (b0 : List XObj) (b1 : ByteArray) (hp0 : b0.length < 4611686018427387904) (hp1 : ∀ o ∈ b0, o.Fine) (Q : Exit → St → Prop) (hT : (bind_world_any_5_itT a1 b0 b1).All Q) : Tr Tryz.prog 2 (loopAt Tryz.f16 0) (bind_world_any_5_itS a1 b0 b1) Q := by
 have hc : loopAt Tryz.f16 0 = .rangeFunc (.tmp 10) (Globs.site 1).1 (Globs.site 1).2.1 (Globs.site 1).2.2 := by kernel_rfl
 rw [hc]
 refine Tr_range (site := 1) (gf := 41) (fn := Tryz.f41) (c := bodyOf Tryz.f41) (cap := [.ptr 3 0, .ptr 4 0, .ptr 5 0]) 6 [6] (slots 12 [(6, .ptr 2 0)]) [.yld 6, .ptr 3 0, .ptr 4 0, .ptr 5 0] [.vec true ⟨.obj, b0⟩, .cells 9 [.str b1], .cells 4 [.bool false], .cells 67 [.vec 0], .cells 27 [.int .u8 (bind_world_some_8F a1 b0 b1)], .cells 73 [.fn 35 [.ptr 1 0]], .loop 1 (slots 12 [(6, .ptr 2 0)]) none] rfl (by kernel_rfl) (by kernel_rfl) rfl (by kernel_rfl) (by kernel_rfl) (by kernel_rfl) (by kernel_rfl) (by kernel_rfl) (by kernel_rfl) (by kernel_rfl) (by kernel_rfl) ?_
 refine Tr_tree (kok _ _ _ _ _ _) (E := E_bind_world_any_5_it) (L := (loopsOf [(0, bind_world_any_5_itLS a1 b0 b1 0, [], bind_world_any_5_itLT a1 b0 b1 0)])) 60 9999 (LoopsOk.one (g := loopAt Tryz.f41 0) (b := 0) (by kernel_rfl) (by kernel_rfl) (by kernel_rfl) (by kernel_rfl) (fun Q h => bind_world_any_5_itL_loop a1 b0 b1 hp0 hp1 (by first | assumption | omega | exact of_short _ (by first | assumption | omega | exact Nat.le_trans (w12_few_len _) (by decide)) | exact r12_Uniq_short _ (by first | assumption | omega | exact Nat.le_trans (w12_few_len _) (by decide)) | exact Nat.lt_of_le_of_lt (w12_few_len _) (by decide) | decide | (simp only [List.length_append, List.length_cons, List.length_nil]; have := w12_few_len a0; omega)) ⟨0, by first | exact Nat.zero_le _ | (show 0 ≤ b0.length; omega) | (show 0 ≤ b0.length; exact ⟨Nat.zero_le _, by assumption⟩) | (show 0 ≤ b0.length; simp)⟩ Q h)) (bind_world_any_5_itR a1 b0 b1) (by kernel_rfl) (by kernel_rfl) (by kernel_rfl) ?_
 unfold bind_world_any_5_itR
 refine ⟨fun h0 => ?_, fun h0 => ?_⟩
 · have hF : bind_world_any_5_itF a1 b0 b1 = true := by first | exact (cond_t h0 rfl) | simp only [bind_world_any_5_itF, h0, cond_true, cond_false]
   unfold bind_world_any_5_itT at hT
   rw [hF] at hT
   exact ⟨⟨trivial, .tup [], by kernel_rfl⟩, (some (.ret)), [.vec true ⟨.obj, b0⟩, .cells 9 [.str b1], .cells 4 [.bool true], .cells 67 [.vec 0], .cells 27 [.int .u8 (bind_world_some_8F a1 b0 b1)], .cells 73 [.fn 35 [.ptr 1 0]], .dead], by kernel_rfl, rfl, by kernel_rfl, by kernel_rfl, by kernel_rfl, by kernel_rfl, hT.1 rfl⟩
 · have hF : bind_world_any_5_itF a1 b0 b1 = false := by first | exact (cond_f h0 rfl) | simp only [bind_world_any_5_itF, h0, cond_true, cond_false]
   unfold bind_world_any_5_itT at hT
   rw [hF] at hT
   exact ⟨⟨trivial, .tup [], by kernel_rfl⟩, none, [.vec true ⟨.obj, b0⟩, .cells 9 [.str b1], .cells 4 [.bool false], .cells 67 [.vec 0], .cells 27 [.int .u8 (bind_world_some_8F a1 b0 b1)], .cells 73 [.fn 35 [.ptr 1 0]], .dead], by kernel_rfl, rfl, by kernel_rfl, by kernel_rfl, by kernel_rfl, by kernel_rfl, hT.2 rfl⟩
noncomputable def E_bind_world_any_5 : Env := envOf (P := Tryz.prog) [bind_world_some_8_fact] [] [] ckf
def bind_world_any_5F (a1 : Int) (b0 : List XObj) (b1 : ByteArray) : Bool :=
 cond (bind_world_any_5_itF a1 b0 b1)
  true
  false
def bind_world_any_5R (a1 : Int) (b0 : List XObj) (b1 : ByteArray) : RT :=
 (.ask (bind_world_any_5_itF a1 b0 b1)
   (.leaf .ret ⟨slots 12 [(6, .ptr 2 0)], [.vec true ⟨.obj, b0⟩, .cells 9 [.str b1], .cells 4 [.bool true]]⟩ [])
   (.leaf .ret ⟨slots 12 [(6, .ptr 2 0)], [.vec true ⟨.obj, b0⟩, .cells 9 [.str b1], .cells 4 [.bool false]]⟩ []))
theorem bind_world_any_5F_tr (a1 : Int) (b0 : List XObj) (b1 : ByteArray) (hp0 : b0.length < 4611686018427387904) (hp1 : ∀ o ∈ b0, o.Fine) : Tr Tryz.prog 2 (bodyOf Tryz.f16) (fnBegins Tryz.f16 [.agg [.vec 0], .int .u8 a1, .fn 35 [.ptr 1 0]] [.vec true ⟨.obj, b0⟩, .cells 9 [.str b1]]) (fnEnds Tryz.prog Tryz.f16 (.bool (bind_world_any_5F a1 b0 b1)) [.vec true ⟨.obj, b0⟩, .cells 9 [.str b1]]) := by
 refine Tr_tree (kok _ _ _ _ _ _) (E := E_bind_world_any_5) (L := (loopsOf [(0, bind_world_any_5_itS a1 b0 b1, [0, 1, 3, 4, 5, 6], bind_world_any_5_itT a1 b0 b1)])) 60 9999 (LoopsOk.oneR (g := loopAt Tryz.f16 0) (b := 0) (by kernel_rfl) (by kernel_rfl) (by kernel_rfl) (by kernel_rfl) (fun Q h => bind_world_any_5_it_rg a1 b0 b1 hp0 hp1 Q h)) (bind_world_any_5R a1 b0 b1) (by kernel_rfl) (by kernel_rfl) (by kernel_rfl) ?_
 unfold bind_world_any_5R
 refine ⟨fun h0 => ?_, fun h0 => ?_⟩
 · have hF : bind_world_any_5F a1 b0 b1 = true := by first | exact (cond_t h0 rfl) | simp only [bind_world_any_5F, h0, cond_true, cond_false]
   exact ⟨trivial, .inl (by first | (rw [hF]; kernel_rfl) | kernel_rfl), by first | (rw [hF]; kernel_rfl) | kernel_rfl⟩
 · have hF : bind_world_any_5F a1 b0 b1 = false := by first | exact (cond_f h0 rfl) | simp only [bind_world_any_5F, h0, cond_true, cond_false]
   exact ⟨trivial, .inl (by first | (rw [hF]; kernel_rfl) | kernel_rfl), by first | (rw [hF]; kernel_rfl) | kernel_rfl⟩
noncomputable def bind_world_any_5_fact : Fact Tryz.prog := factOf 16 Tryz.f16 (by kernel_rfl) rfl (by kernel_rfl) [.agg [.vec 0], .c (.int .u8), .fn 35 [.ptr 1 0]] [.vec true .obj, .cells 9 [.str]] true (fun t u => .bool (bind_world_any_5F t.2.1 u.1 u.2.1.1)) (fun t u => HPL.enc _ u) (fun t u => [u.1.length < 4611686018427387904, ∀ o ∈ u.1, o.Fine])
 (fun _ _ _ => rfl) (fun t u => by kernel_rfl) (fun t u => by kernel_rfl) (fun t u h => bind_world_any_5F_tr t.2.1 u.1 u.2.1.1 (h _ List.mem_cons_self) (h _ (List.mem_cons_of_mem _ List.mem_cons_self)))
noncomputable def E_bind_Volume : Env := envOf (P := Tryz.prog) [bind_of_fact, bind_world_get_fact, bind_world_any_3_fact, bind_write_fact, bind_world_any_4_fact, bind_world_any_5_fact, bind_ask_fact] [] [] ckf
def bind_VolumeF (a0 : List XObj) (a1 : Int) (a2 : ByteArray) : XAct :=
 cond (!((bind_world_getF (4 : Int) a2 (bind_ofF a0)).2))
  (default : XAct)
  (cond (cond (cond ((((bind_world_getF (4 : Int) a2 (bind_ofF a0)).1).phase) == (4 : Int)) (((bind_world_getF (4 : Int) a2 (bind_ofF a0)).1).deleting) false) (!(((bind_world_getF (4 : Int) a2 (bind_ofF a0)).1).keep)) false)
    (bind_writeF ({ ((bind_world_getF (4 : Int) a2 (bind_ofF a0)).1) with phase := (6 : Int), num := (IntKind.u64.wrap (a1 + (1 : Int))) } : XObj))
    (cond ((((bind_world_getF (4 : Int) a2 (bind_ofF a0)).1).phase) == (3 : Int))
      (cond (bind_world_any_3F (3 : Int) (bind_ofF a0) ((bind_world_getF (4 : Int) a2 (bind_ofF a0)).1))
        (default : XAct)
        (cond (((bind_world_getF (4 : Int) a2 (bind_ofF a0)).1).keep)
          (bind_writeF ({ ((bind_world_getF (4 : Int) a2 (bind_ofF a0)).1) with phase := (5 : Int) } : XObj))
          (bind_writeF ({ ((bind_world_getF (4 : Int) a2 (bind_ofF a0)).1) with phase := (6 : Int), num := (IntKind.u64.wrap (a1 + (1 : Int))) } : XObj))))
      (cond ((((bind_world_getF (4 : Int) a2 (bind_ofF a0)).1).phase) == (6 : Int))
        (cond (cond (bind_world_any_4F (5 : Int) (bind_ofF a0) a2) true (bind_world_any_5F (7 : Int) (bind_ofF a0) a2))
          (default : XAct)
          (bind_askF (⟨(2 : Int), a2, (((bind_world_getF (4 : Int) a2 (bind_ofF a0)).1).num), (0 : Int), (⟨#[]⟩ : ByteArray), (⟨#[]⟩ : ByteArray), (⟨#[]⟩ : ByteArray)⟩ : XCall)))
        (default : XAct))))
def bind_VolumeR (a0 : List XObj) (a1 : Int) (a2 : ByteArray) : RT :=
 (.need [a0.length ≤ 64]
   (.need [(bind_ofF a0).length < 4611686018427387904, ∀ o ∈ (bind_ofF a0), o.Fine]
     (.ask (!((bind_world_getF (4 : Int) a2 (bind_ofF a0)).2))
       (.leaf .ret ⟨slots 74 [(6, .ptr 0 0)], [.cells 39 [.int .u8 0, .int .u8 0, .str (⟨#[]⟩ : ByteArray), .int .u64 0, .int .u64 0, .bool false, .bool false, .str (⟨#[]⟩ : ByteArray), .int .i64 0, .int .i64 0, .int .u8 0, .bool false, .bool false, .str (⟨#[]⟩ : ByteArray), .str (⟨#[]⟩ : ByteArray), .str (⟨#[]⟩ : ByteArray), .str (⟨#[]⟩ : ByteArray), .str (⟨#[]⟩ : ByteArray), .int .u8 0, .int .u64 0, .int .u64 0, .int .u8 0, .str (⟨#[]⟩ : ByteArray), .int .u64 0, .int .i64 0, .str (⟨#[]⟩ : ByteArray), .str (⟨#[]⟩ : ByteArray), .str (⟨#[]⟩ : ByteArray)]]⟩ [1])
       (.ask (cond (cond ((((bind_world_getF (4 : Int) a2 (bind_ofF a0)).1).phase) == (4 : Int)) (((bind_world_getF (4 : Int) a2 (bind_ofF a0)).1).deleting) false) (!(((bind_world_getF (4 : Int) a2 (bind_ofF a0)).1).keep)) false)
         (.leaf .ret ⟨slots 74 [(6, .ptr 0 0)], [.cells 39 (ac (bind_writeF ({ ((bind_world_getF (4 : Int) a2 (bind_ofF a0)).1) with phase := (6 : Int), num := (IntKind.u64.wrap (a1 + (1 : Int))) } : XObj)))]⟩ [1])
         (.ask ((((bind_world_getF (4 : Int) a2 (bind_ofF a0)).1).phase) == (3 : Int))
           (.need [(bind_ofF a0).length < 4611686018427387904, ∀ o ∈ (bind_ofF a0), o.Fine]
             (.ask (bind_world_any_3F (3 : Int) (bind_ofF a0) ((bind_world_getF (4 : Int) a2 (bind_ofF a0)).1))
               (.leaf .ret ⟨slots 74 [(6, .ptr 0 0)], [.cells 39 [.int .u8 0, .int .u8 0, .str (⟨#[]⟩ : ByteArray), .int .u64 0, .int .u64 0, .bool false, .bool false, .str (⟨#[]⟩ : ByteArray), .int .i64 0, .int .i64 0, .int .u8 0, .bool false, .bool false, .str (⟨#[]⟩ : ByteArray), .str (⟨#[]⟩ : ByteArray), .str (⟨#[]⟩ : ByteArray), .str (⟨#[]⟩ : ByteArray), .str (⟨#[]⟩ : ByteArray), .int .u8 0, .int .u64 0, .int .u64 0, .int .u8 0, .str (⟨#[]⟩ : ByteArray), .int .u64 0, .int .i64 0, .str (⟨#[]⟩ : ByteArray), .str (⟨#[]⟩ : ByteArray), .str (⟨#[]⟩ : ByteArray)]]⟩ [1])
               (.ask (((bind_world_getF (4 : Int) a2 (bind_ofF a0)).1).keep)
                 (.leaf .ret ⟨slots 74 [(6, .ptr 0 0)], [.cells 39 (ac (bind_writeF ({ ((bind_world_getF (4 : Int) a2 (bind_ofF a0)).1) with phase := (5 : Int) } : XObj)))]⟩ [1])
                 (.leaf .ret ⟨slots 74 [(6, .ptr 0 0)], [.cells 39 (ac (bind_writeF ({ ((bind_world_getF (4 : Int) a2 (bind_ofF a0)).1) with phase := (6 : Int), num := (IntKind.u64.wrap (a1 + (1 : Int))) } : XObj)))]⟩ [1]))))
           (.ask ((((bind_world_getF (4 : Int) a2 (bind_ofF a0)).1).phase) == (6 : Int))
             (.need [(bind_ofF a0).length < 4611686018427387904, ∀ o ∈ (bind_ofF a0), o.Fine]
               (.need [((bind_world_any_4F (5 : Int) (bind_ofF a0) a2) = false) → ((bind_ofF a0).length < 4611686018427387904), ((bind_world_any_4F (5 : Int) (bind_ofF a0) a2) = false) → (∀ o ∈ (bind_ofF a0), o.Fine)]
                 (.ask (cond (bind_world_any_4F (5 : Int) (bind_ofF a0) a2) true (bind_world_any_5F (7 : Int) (bind_ofF a0) a2))
                   (.leaf .ret ⟨slots 74 [(6, .ptr 0 0)], [.cells 39 [.int .u8 0, .int .u8 0, .str (⟨#[]⟩ : ByteArray), .int .u64 0, .int .u64 0, .bool false, .bool false, .str (⟨#[]⟩ : ByteArray), .int .i64 0, .int .i64 0, .int .u8 0, .bool false, .bool false, .str (⟨#[]⟩ : ByteArray), .str (⟨#[]⟩ : ByteArray), .str (⟨#[]⟩ : ByteArray), .str (⟨#[]⟩ : ByteArray), .str (⟨#[]⟩ : ByteArray), .int .u8 0, .int .u64 0, .int .u64 0, .int .u8 0, .str (⟨#[]⟩ : ByteArray), .int .u64 0, .int .i64 0, .str (⟨#[]⟩ : ByteArray), .str (⟨#[]⟩ : ByteArray), .str (⟨#[]⟩ : ByteArray)]]⟩ [1])
                   (.leaf .ret ⟨slots 74 [(6, .ptr 0 0)], [.cells 39 (ac (bind_askF (⟨(2 : Int), a2, (((bind_world_getF (4 : Int) a2 (bind_ofF a0)).1).num), (0 : Int), (⟨#[]⟩ : ByteArray), (⟨#[]⟩ : ByteArray), (⟨#[]⟩ : ByteArray)⟩ : XCall)))]⟩ [1]))))
             (.leaf .ret ⟨slots 74 [(6, .ptr 0 0)], [.cells 39 [.int .u8 0, .int .u8 0, .str (⟨#[]⟩ : ByteArray), .int .u64 0, .int .u64 0, .bool false, .bool false, .str (⟨#[]⟩ : ByteArray), .int .i64 0, .int .i64 0, .int .u8 0, .bool false, .bool false, .str (⟨#[]⟩ : ByteArray), .str (⟨#[]⟩ : ByteArray), .str (⟨#[]⟩ : ByteArray), .str (⟨#[]⟩ : ByteArray), .str (⟨#[]⟩ : ByteArray), .int .u8 0, .int .u64 0, .int .u64 0, .int .u8 0, .str (⟨#[]⟩ : ByteArray), .int .u64 0, .int .i64 0, .str (⟨#[]⟩ : ByteArray), .str (⟨#[]⟩ : ByteArray), .str (⟨#[]⟩ : ByteArray)]]⟩ [1])))))))
theorem bind_VolumeF_tr (a0 : List XObj) (a1 : Int) (a2 : ByteArray) (hp0 : a0.length ≤ 64) (hp1 : ∀ o ∈ a0, o.Fine) : Tr Tryz.prog 0 (bodyOf Tryz.f10) (fnBegins Tryz.f10 [.coll ⟨.obj, a0⟩, .int .u64 a1, .str a2] []) (fnEnds Tryz.prog Tryz.f10 (.agg (ac (bind_VolumeF a0 a1 a2))) []) := by
 refine Tr_tree (kok _ _ _ _ _ _) (E := E_bind_Volume) (L := noLoops) 60 9999 LoopsOk.none (bind_VolumeR a0 a1 a2) (by kernel_rfl) (by kernel_rfl) (by kernel_rfl) ?_
 unfold bind_VolumeR
 refine ⟨need_cons (by (try refine fun (_ : _ = _) => ?_); first | assumption | omega | exact of_len _ (by first | assumption | omega | exact Nat.le_trans (w12_few_len _) (by decide)) | exact r12_Uniq_len _ (by first | assumption | omega | exact Nat.le_trans (w12_few_len _) (by decide)) | exact Nat.le_trans (w12_few_len _) (by decide) | decide | (simp only [List.length_append, List.length_cons, List.length_nil]; have := w12_few_len a0; omega)) (need_nil), ?_⟩
 refine ⟨need_cons (by (try refine fun (_ : _ = _) => ?_); first | assumption | omega | exact of_short _ (by first | assumption | omega | exact Nat.le_trans (w12_few_len _) (by decide)) | exact r12_Uniq_short _ (by first | assumption | omega | exact Nat.le_trans (w12_few_len _) (by decide)) | exact Nat.lt_of_le_of_lt (w12_few_len _) (by decide) | decide | (simp only [List.length_append, List.length_cons, List.length_nil]; have := w12_few_len a0; omega)) (need_cons (by (try refine fun (_ : _ = _) => ?_); first | assumption | exact of_fine _ (by first | assumption | exact w12_few_fine (by assumption)) | exact r12_Uniq_fine _ (by first | assumption | exact w12_few_fine (by assumption)) | exact w12_few_fine (by assumption) | exact cons2_fine hp1 ⟨hp1.2.2.2.2.2.2.2.1, Int.le_refl 0, (by decide : (0 : Int) ≤ 18446744073709551615), Nat.zero_le _, Nat.zero_le _, Nat.zero_le _, ref_size _, Nat.zero_le _, Nat.zero_le _⟩ (w12_few_fine hp0) | (simp only [List.mem_cons, List.not_mem_nil, or_false, forall_eq_or_imp, forall_eq, XObj.Fine, size_mk]; decide)) (need_nil)), ?_⟩
 refine ⟨fun h0 => ?_, fun h0 => ?_⟩
 · have hF : bind_VolumeF a0 a1 a2 = (default : XAct) := by first | exact (cond_t h0 rfl) | simp only [bind_VolumeF, h0, cond_true, cond_false]
   exact ⟨trivial, .inl (by first | (rw [hF]; kernel_rfl) | kernel_rfl), by first | (rw [hF]; kernel_rfl) | kernel_rfl⟩
 · refine ⟨fun h1 => ?_, fun h1 => ?_⟩
   · have hF : bind_VolumeF a0 a1 a2 = (bind_writeF ({ ((bind_world_getF (4 : Int) a2 (bind_ofF a0)).1) with phase := (6 : Int), num := (IntKind.u64.wrap (a1 + (1 : Int))) } : XObj)) := by first | exact (cond_f h0 (cond_t h1 rfl)) | simp only [bind_VolumeF, h0, h1, cond_true, cond_false]
     exact ⟨trivial, .inl (by first | (rw [hF]; kernel_rfl) | kernel_rfl), by first | (rw [hF]; kernel_rfl) | kernel_rfl⟩
   · refine ⟨fun h2 => ?_, fun h2 => ?_⟩
     · refine ⟨need_cons (by (try refine fun (_ : _ = _) => ?_); first | assumption | omega | exact of_short _ (by first | assumption | omega | exact Nat.le_trans (w12_few_len _) (by decide)) | exact r12_Uniq_short _ (by first | assumption | omega | exact Nat.le_trans (w12_few_len _) (by decide)) | exact Nat.lt_of_le_of_lt (w12_few_len _) (by decide) | decide | (simp only [List.length_append, List.length_cons, List.length_nil]; have := w12_few_len a0; omega)) (need_cons (by (try refine fun (_ : _ = _) => ?_); first | assumption | exact of_fine _ (by first | assumption | exact w12_few_fine (by assumption)) | exact r12_Uniq_fine _ (by first | assumption | exact w12_few_fine (by assumption)) | exact w12_few_fine (by assumption) | exact cons2_fine hp1 ⟨hp1.2.2.2.2.2.2.2.1, Int.le_refl 0, (by decide : (0 : Int) ≤ 18446744073709551615), Nat.zero_le _, Nat.zero_le _, Nat.zero_le _, ref_size _, Nat.zero_le _, Nat.zero_le _⟩ (w12_few_fine hp0) | (simp only [List.mem_cons, List.not_mem_nil, or_false, forall_eq_or_imp, forall_eq, XObj.Fine, size_mk]; decide)) (need_nil)), ?_⟩
       refine ⟨fun h3 => ?_, fun h3 => ?_⟩
       · have hF : bind_VolumeF a0 a1 a2 = (default : XAct) := by first | exact (cond_f h0 (cond_f h1 (cond_t h2 (cond_t h3 rfl)))) | simp only [bind_VolumeF, h0, h1, h2, h3, cond_true, cond_false]
         exact ⟨trivial, .inl (by first | (rw [hF]; kernel_rfl) | kernel_rfl), by first | (rw [hF]; kernel_rfl) | kernel_rfl⟩
       · refine ⟨fun h4 => ?_, fun h4 => ?_⟩
         · have hF : bind_VolumeF a0 a1 a2 = (bind_writeF ({ ((bind_world_getF (4 : Int) a2 (bind_ofF a0)).1) with phase := (5 : Int) } : XObj)) := by first | exact (cond_f h0 (cond_f h1 (cond_t h2 (cond_f h3 (cond_t h4 rfl))))) | simp only [bind_VolumeF, h0, h1, h2, h3, h4, cond_true, cond_false]
           exact ⟨trivial, .inl (by first | (rw [hF]; kernel_rfl) | kernel_rfl), by first | (rw [hF]; kernel_rfl) | kernel_rfl⟩
         · have hF : bind_VolumeF a0 a1 a2 = (bind_writeF ({ ((bind_world_getF (4 : Int) a2 (bind_ofF a0)).1) with phase := (6 : Int), num := (IntKind.u64.wrap (a1 + (1 : Int))) } : XObj)) := by first | exact (cond_f h0 (cond_f h1 (cond_t h2 (cond_f h3 (cond_f h4 rfl))))) | simp only [bind_VolumeF, h0, h1, h2, h3, h4, cond_true, cond_false]
           exact ⟨trivial, .inl (by first | (rw [hF]; kernel_rfl) | kernel_rfl), by first | (rw [hF]; kernel_rfl) | kernel_rfl⟩
     · refine ⟨fun h3 => ?_, fun h3 => ?_⟩
       · refine ⟨need_cons (by (try refine fun (_ : _ = _) => ?_); first | assumption | omega | exact of_short _ (by first | assumption | omega | exact Nat.le_trans (w12_few_len _) (by decide)) | exact r12_Uniq_short _ (by first | assumption | omega | exact Nat.le_trans (w12_few_len _) (by decide)) | exact Nat.lt_of_le_of_lt (w12_few_len _) (by decide) | decide | (simp only [List.length_append, List.length_cons, List.length_nil]; have := w12_few_len a0; omega)) (need_cons (by (try refine fun (_ : _ = _) => ?_); first | assumption | exact of_fine _ (by first | assumption | exact w12_few_fine (by assumption)) | exact r12_Uniq_fine _ (by first | assumption | exact w12_few_fine (by assumption)) | exact w12_few_fine (by assumption) | exact cons2_fine hp1 ⟨hp1.2.2.2.2.2.2.2.1, Int.le_refl 0, (by decide : (0 : Int) ≤ 18446744073709551615), Nat.zero_le _, Nat.zero_le _, Nat.zero_le _, ref_size _, Nat.zero_le _, Nat.zero_le _⟩ (w12_few_fine hp0) | (simp only [List.mem_cons, List.not_mem_nil, or_false, forall_eq_or_imp, forall_eq, XObj.Fine, size_mk]; decide)) (need_nil)), ?_⟩
         refine ⟨need_cons (by (try refine fun (_ : _ = _) => ?_); first | assumption | omega | exact of_short _ (by first | assumption | omega | exact Nat.le_trans (w12_few_len _) (by decide)) | exact r12_Uniq_short _ (by first | assumption | omega | exact Nat.le_trans (w12_few_len _) (by decide)) | exact Nat.lt_of_le_of_lt (w12_few_len _) (by decide) | decide | (simp only [List.length_append, List.length_cons, List.length_nil]; have := w12_few_len a0; omega)) (need_cons (by (try refine fun (_ : _ = _) => ?_); first | assumption | exact of_fine _ (by first | assumption | exact w12_few_fine (by assumption)) | exact r12_Uniq_fine _ (by first | assumption | exact w12_few_fine (by assumption)) | exact w12_few_fine (by assumption) | exact cons2_fine hp1 ⟨hp1.2.2.2.2.2.2.2.1, Int.le_refl 0, (by decide : (0 : Int) ≤ 18446744073709551615), Nat.zero_le _, Nat.zero_le _, Nat.zero_le _, ref_size _, Nat.zero_le _, Nat.zero_le _⟩ (w12_few_fine hp0) | (simp only [List.mem_cons, List.not_mem_nil, or_false, forall_eq_or_imp, forall_eq, XObj.Fine, size_mk]; decide)) (need_nil)), ?_⟩
         refine ⟨fun h4 => ?_, fun h4 => ?_⟩
         · have hF : bind_VolumeF a0 a1 a2 = (default : XAct) := by first | exact (cond_f h0 (cond_f h1 (cond_f h2 (cond_t h3 (cond_t h4 rfl))))) | simp only [bind_VolumeF, h0, h1, h2, h3, h4, cond_true, cond_false]
           exact ⟨trivial, .inl (by first | (rw [hF]; kernel_rfl) | kernel_rfl), by first | (rw [hF]; kernel_rfl) | kernel_rfl⟩
         · have hF : bind_VolumeF a0 a1 a2 = (bind_askF (⟨(2 : Int), a2, (((bind_world_getF (4 : Int) a2 (bind_ofF a0)).1).num), (0 : Int), (⟨#[]⟩ : ByteArray), (⟨#[]⟩ : ByteArray), (⟨#[]⟩ : ByteArray)⟩ : XCall)) := by first | exact (cond_f h0 (cond_f h1 (cond_f h2 (cond_t h3 (cond_f h4 rfl))))) | simp only [bind_VolumeF, h0, h1, h2, h3, h4, cond_true, cond_false]
           exact ⟨trivial, .inl (by first | (rw [hF]; kernel_rfl) | kernel_rfl), by first | (rw [hF]; kernel_rfl) | kernel_rfl⟩
       · have hF : bind_VolumeF a0 a1 a2 = (default : XAct) := by first | exact (cond_f h0 (cond_f h1 (cond_f h2 (cond_f h3 rfl)))) | simp only [bind_VolumeF, h0, h1, h2, h3, cond_true, cond_false]
         exact ⟨trivial, .inl (by first | (rw [hF]; kernel_rfl) | kernel_rfl), by first | (rw [hF]; kernel_rfl) | kernel_rfl⟩
noncomputable def bind_Volume_fact : Fact Tryz.prog := factOf 10 Tryz.f10 (by kernel_rfl) rfl (by kernel_rfl) [.c (.coll .obj), .c (.int .u64), .c (.str)] [] true (fun t u => .agg (ac (bind_VolumeF t.1 t.2.1 t.2.2.1))) (fun t u => []) (fun t u => [t.1.length ≤ 64, ∀ o ∈ t.1, o.Fine])
 (fun _ _ _ => rfl) (fun t u => by kernel_rfl) (fun t u => by kernel_rfl) (fun t u h => bind_VolumeF_tr t.1 t.2.1 t.2.2.1 (h _ List.mem_cons_self) (h _ (List.mem_cons_of_mem _ List.mem_cons_self)))
end Go.Proofs.YtkledlcmhbjadaaGreatDoor
