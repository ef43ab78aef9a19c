/- Bind: what is done next for a claim. -/
import Derived.Test.YtkledlcmhbjadaaGreatDoorDHB
set_option linter.unusedVariables false
set_option linter.unusedSimpArgs false
set_option maxRecDepth 100000
namespace Go.Proofs.YtkledlcmhbjadaaGreatDoor
open Go Go.Eng
noncomputable def E_bind_world_some_2 : Env := envOf (P := Tryz.prog) [] [] [] ckf
def bind_world_some_2F (a1 : Int) (b0 : List XObj) (b1 : XObj) : Int :=
 a1
def bind_world_some_2R (a1 : Int) (b0 : List XObj) (b1 : XObj) : RT :=
 (.leaf .ret ⟨slots 8 [(6, .fn 41 [.ptr 2 0, .ptr 3 0, .ptr 4 0])], [.vec true ⟨.obj, b0⟩, .cells 32 (oc b1), .cells 67 [.vec 0], .cells 27 [.int .u8 a1], .cells 73 [.fn 17 [.ptr 1 0]]]⟩ [])
theorem bind_world_some_2F_tr (a1 : Int) (b0 : List XObj) (b1 : XObj)  : Tr Tryz.prog 2 (bodyOf Tryz.f20) (fnBegins Tryz.f20 [.agg [.vec 0], .int .u8 a1, .fn 17 [.ptr 1 0]] [.vec true ⟨.obj, b0⟩, .cells 32 (oc b1)]) (fnEnds Tryz.prog Tryz.f20 (.fn 41 [.ptr 2 0, .ptr 3 0, .ptr 4 0]) [.vec true ⟨.obj, b0⟩, .cells 32 (oc b1), .cells 67 [.vec 0], .cells 27 [.int .u8 (bind_world_some_2F a1 b0 b1)], .cells 73 [.fn 17 [.ptr 1 0]]]) := by
 refine Tr_tree (kok _ _ _ _ _ _) (E := E_bind_world_some_2) (L := noLoops) 60 9999 LoopsOk.none (bind_world_some_2R a1 b0 b1) (by kernel_rfl) (by kernel_rfl) (by kernel_rfl) ?_
 unfold bind_world_some_2R
 exact ⟨trivial, .inl (by kernel_rfl), by kernel_rfl⟩
noncomputable def bind_world_some_2_fact0 : Fact Tryz.prog := factOf 20 Tryz.f20 (by kernel_rfl) rfl (by kernel_rfl) [.agg [.vec 0], .c (.int .u8), .fn 17 [.ptr 1 0]] [.vec true .obj, .st 32 .obj] false (fun t u => .fn 41 [.ptr 2 0, .ptr 3 0, .ptr 4 0]) (fun t u => [.vec true ⟨.obj, u.1⟩, .cells 32 (oc u.2.1), .cells 67 [.vec 0], .cells 27 [.int .u8 (bind_world_some_2F t.2.1 u.1 u.2.1)], .cells 73 [.fn 17 [.ptr 1 0]]]) (fun t u => [])
 (nofun) (fun t u => by kernel_rfl) (fun t u => by kernel_rfl) (fun t u h => bind_world_some_2F_tr t.2.1 u.1 u.2.1 )
noncomputable def bind_world_some_2_fact : Fact Tryz.prog := factThin bind_world_some_2_fact0 [.agg [.vec 0], .c (.int .u8), .fn 17 [.ptr 1 0]] [.vec true .obj, .st 32 .obj] (fun t u => .fn 41 [.ptr 2 0, .ptr 3 0, .ptr 4 0]) (fun t u => [.vec true ⟨.obj, u.1⟩, .cells 32 (oc u.2.1), .cells 67 [.vec 0], .cells 27 [.int .u8 (bind_world_some_2F t.2.1 u.1 u.2.1)], .cells 73 [.fn 17 [.ptr 1 0]]]) (fun t u => []) rfl [0, 1] (by
 intro t u k hk
 simp only [List.mem_cons, List.not_mem_nil, or_false] at hk
 rcases hk with rfl | rfl
 all_goals exact ⟨by decide, rfl⟩)
noncomputable def E_bind_Claim_1 : Env := envOf (P := Tryz.prog) [] [] [] ckf
def bind_Claim_1F (a0 : XObj) (b0 : XObj) : Bool :=
 decide (a0.claim = b0.name)
def bind_Claim_1R (a0 : XObj) (b0 : XObj) : RT :=
 (.leaf .ret ⟨slots 9 [(3, .bool (decide (a0.claim = b0.name)))], [.cells 32 (oc b0)]⟩ [])
theorem bind_Claim_1F_tr (a0 : XObj) (b0 : XObj)  : Tr Tryz.prog 1 (bodyOf Tryz.f17) (fnBegins Tryz.f17 [.agg (oc a0), .ptr 0 0] [.cells 32 (oc b0)]) (fnEnds Tryz.prog Tryz.f17 (.bool (bind_Claim_1F a0 b0)) [.cells 32 (oc b0)]) := by
 refine Tr_tree (kok _ _ _ _ _ _) (E := E_bind_Claim_1) (L := noLoops) 60 9999 LoopsOk.none (bind_Claim_1R a0 b0) (by kernel_rfl) (by kernel_rfl) (by kernel_rfl) ?_
 unfold bind_Claim_1R
 exact ⟨trivial, .inl (by kernel_rfl), by kernel_rfl⟩
noncomputable def bind_Claim_1_fact : Fact Tryz.prog := factOf 17 Tryz.f17 (by kernel_rfl) rfl (by kernel_rfl) [.st .obj, .c (.ptr 0 0)] [.st 32 .obj] true (fun t u => .bool (bind_Claim_1F t.1 u.1)) (fun t u => HPL.enc _ u) (fun t u => [])
 (fun _ _ _ => rfl) (fun t u => by kernel_rfl) (fun t u => by kernel_rfl) (fun t u h => bind_Claim_1F_tr t.1 u.1 )
noncomputable def E_bind_world_any_r : Env := envOf (P := Tryz.prog) [] [] [] ckf
def bind_world_any_rQ (a1 : XObj) (b1 : Bool) : RT :=
 (.leaf .normal ⟨slots 12 [(6, .ptr 1 0)], [.dead, .cells 4 [.bool b1]]⟩ [])
def bind_world_any_rR (a1 : XObj) (b1 : Bool) : RT :=
 (.leaf .ret ⟨slots 12 [], [.dead, .cells 4 [.bool true]]⟩ [])
theorem bind_world_any_r_tr (a1 : XObj) (b1 : Bool)  : Tr Tryz.prog 2 (Globs.site 1).2.1 ⟨slots 12 [(6, .ptr 1 0), (11, .agg (oc a1))], .dead :: [.cells 4 [.bool b1]]⟩ (fun e s1 => e = .normal ∧ Tr Tryz.prog 2 (Globs.site 1).2.2 s1 (rdEnds (true) .ret [.cells 4 [.bool true]] .ret [.cells 4 [.bool true]])) := by
 refine Tr_tree (kok _ _ _ _ _ _) (E := E_bind_world_any_r) (L := noLoops) 60 9999 LoopsOk.none (bind_world_any_rQ a1 b1) (by kernel_rfl) (by kernel_rfl) (by kernel_rfl) ?_
 unfold bind_world_any_rQ
 refine ⟨rfl, ?_⟩
 refine Tr_tree (kok _ _ _ _ _ _) (E := E_bind_world_any_r) (L := noLoops) 60 9999 LoopsOk.none (bind_world_any_rR a1 b1) (by kernel_rfl) (by kernel_rfl) (by kernel_rfl) ?_
 unfold bind_world_any_rR
 exact .inl ⟨rfl, rfl, by kernel_rfl⟩
noncomputable def bind_world_any_r_fact : FactY Tryz.prog := factY 1 [.st .obj] (cpsOf 12 [(6, .ptr 1 0)]) [.cells 4 [.bool]] (fun t u => true) .ret .ret (some (.ret)) (some (.ret)) (fun t u => [.cells 4 [.bool true]]) (fun t u => [.cells 4 [.bool true]]) (fun t u => []) rfl rfl
 (fun t u => by kernel_rfl) (fun t => by kernel_rfl) (fun t u => by kernel_rfl) (fun t u => by kernel_rfl) (fun t u => by kernel_rfl) (fun t u => slots 12 [(6, .ptr 1 0), (11, .agg (oc t.2.1))]) (fun t u => by kernel_rfl) (fun t u h => bind_world_any_r_tr t.2.1 u.2.1.1 )
noncomputable def E_bind_world_any_it : Env := envOf (P := Tryz.prog) [bind_Claim_1_fact] [] [] ckf false [bind_world_any_r_fact]
def bind_world_any_itLF (a1 : Int) (b0 : List XObj) (b1 : XObj) : List XObj → Bool
 | [] => false
 | o :: r => cond (cond ((o.kind) == (bind_world_some_2F a1 b0 b1)) (bind_Claim_1F o b1) false)
  true
  (bind_world_any_itLF a1 b0 b1 r)
def bind_world_any_itLS (a1 : Int) (b0 : List XObj) (b1 : XObj) (i : Nat) : St :=
 ⟨slots 30 [(0, .yld 6), (2, .ptr 4 0), (3, .ptr 5 0), (8, .vec 0), (9, .int .i64 (b0.length : Int)), (10, .int .i64 (i : Int))], [.vec true ⟨.obj, b0⟩, .cells 32 (oc b1), .cells 4 [.bool false], .cells 67 [.vec 0], .cells 27 [.int .u8 (bind_world_some_2F a1 b0 b1)], .cells 73 [.fn 17 [.ptr 1 0]], .loop 1 (slots 12 [(6, .ptr 2 0)]) none]⟩
def bind_world_any_itLR (a1 : Int) (b0 : List XObj) (b1 : XObj) (i : Nat) : RT :=
 (.ask (decide ((i : Int) < (b0.length : Int)))
   (.need [0 ≤ (i : Int) ∧ (i : Int) < (b0.length : Int)]
     (.ask (cond (((b0.getD i default).kind) == (bind_world_some_2F a1 b0 b1)) (bind_Claim_1F (b0.getD i default) b1) false)
       (.ask true
         (.ask true
           (.leaf .ret ⟨slots 30 [], [.vec true ⟨.obj, b0⟩, .cells 32 (oc b1), .cells 4 [.bool true], .cells 67 [.vec 0], .cells 27 [.int .u8 (bind_world_some_2F a1 b0 b1)], .cells 73 [.fn 17 [.ptr 1 0]], .loop 1 (slots 12 [(6, .ptr 2 0)]) (some (.ret))]⟩ [])
           .fail)
         .fail)
       (.ask false
         .fail
         (.leaf .normal ⟨slots 30 [(0, .yld 6), (2, .ptr 4 0), (3, .ptr 5 0), (8, .vec 0), (9, .int .i64 (b0.length : Int)), (10, .int .i64 (IntKind.i64.wrap ((i : Int) + (1 : Int))))], [.vec true ⟨.obj, b0⟩, .cells 32 (oc b1), .cells 4 [.bool false], .cells 67 [.vec 0], .cells 27 [.int .u8 (bind_world_some_2F a1 b0 b1)], .cells 73 [.fn 17 [.ptr 1 0]], .loop 1 (slots 12 [(6, .ptr 2 0)]) none]⟩ []))))
   (.leaf (.exit 0) ⟨slots 30 [], [.vec true ⟨.obj, b0⟩, .cells 32 (oc b1), .cells 4 [.bool false], .cells 67 [.vec 0], .cells 27 [.int .u8 (bind_world_some_2F a1 b0 b1)], .cells 73 [.fn 17 [.ptr 1 0]], .loop 1 (slots 12 [(6, .ptr 2 0)]) none]⟩ []))
def bind_world_any_itLT (a1 : Int) (b0 : List XObj) (b1 : XObj) (i : Nat) : Tree :=
 .ask (bind_world_any_itLF a1 b0 b1 (b0.drop i)) (.leaf .ret ⟨slots 30 [], [.vec true ⟨.obj, b0⟩, .cells 32 (oc b1), .cells 4 [.bool true], .cells 67 [.vec 0], .cells 27 [.int .u8 (bind_world_some_2F a1 b0 b1)], .cells 73 [.fn 17 [.ptr 1 0]], .loop 1 (slots 12 [(6, .ptr 2 0)]) (some (.ret))]⟩) (.leaf (.exit 0) ⟨slots 30 [], [.vec true ⟨.obj, b0⟩, .cells 32 (oc b1), .cells 4 [.bool false], .cells 67 [.vec 0], .cells 27 [.int .u8 (bind_world_some_2F a1 b0 b1)], .cells 73 [.fn 17 [.ptr 1 0]], .loop 1 (slots 12 [(6, .ptr 2 0)]) none]⟩)
theorem bind_world_any_itL_loop (a1 : Int) (b0 : List XObj) (b1 : XObj) (hp0 : b0.length < 4611686018427387904) (hp1 : ∀ o ∈ b0, o.Fine) (hlen : b0.length < 4611686018427387904) (z : { z : Nat // z ≤ b0.length }) (Q : Exit → St → Prop) (h : (bind_world_any_itLT a1 b0 b1 z.1).All Q) : Tr Tryz.prog 7 (.loop (loopAt Tryz.f41 0)) (bind_world_any_itLS a1 b0 b1 z.1) Q := by
 refine Tr_loopT (kok _ _ _ _ _ _) (E := E_bind_world_any_it) (ι := { z : Nat // z ≤ b0.length }) 60 0 (fun _ => noLoops) (fun z => bind_world_any_itLS a1 b0 b1 z.1) (fun z => bind_world_any_itLT a1 b0 b1 z.1) (fun z => bind_world_any_itLR a1 b0 b1 z.1) (fun z => b0.length - z.1) (fun _ => LoopsOk.none) (fun z => by obtain ⟨i, hi⟩ := z; kernel_rfl) (fun z => by obtain ⟨i, hi⟩ := z; kernel_rfl) (fun z => by obtain ⟨i, hi⟩ := z; kernel_rfl) ?_ z Q h
 rintro ⟨i, hi⟩ Q hT
 replace hT : (bind_world_any_itLT a1 b0 b1 i).All Q := hT
 replace hi : i ≤ b0.length := hi
 show (bind_world_any_itLR a1 b0 b1 i).All _
 unfold bind_world_any_itLR
 refine ⟨fun h0 => ?_, fun h0 => ?_⟩
 · have hlt : i < b0.length := by simpa using h0
   have hd := drop_getD hlt
   have hw := wrap_succ (i := i) (by omega)
   refine ⟨need_cons (by first | assumption | omega | (intro; omega) | (simp only [decide_eq_true_eq, decide_eq_false_iff_not, Bool.cond_false_right, Bool.cond_true_right, Bool.cond_true_left, Bool.cond_false_left, Bool.and_eq_true, Bool.or_eq_true, Bool.not_eq_true', bytesLim, maxLen, List.length_cons, List.length_nil, List.length_append, byteSize_lit] at *; omega) | (intro; simp only [decide_eq_true_eq, decide_eq_false_iff_not, Bool.cond_false_right, Bool.cond_true_right, Bool.cond_true_left, Bool.cond_false_left, Bool.and_eq_true, Bool.or_eq_true, Bool.not_eq_true', bytesLim, maxLen, List.length_cons, List.length_nil, List.length_append, byteSize_lit] at *; omega)) (need_nil), ?_⟩
   refine ⟨fun h1 => ?_, fun h1 => ?_⟩
   · refine ⟨fun h2 => ?_, fun h2 => ?_⟩
     · refine ⟨fun h3 => ?_, fun h3 => ?_⟩
       · have hF : bind_world_any_itLF a1 b0 b1 (b0.drop i) = true := by rw [hd]; first | exact (cond_t h1 (cond_t h2 (cond_t h3 rfl))) | simp only [bind_world_any_itLF, h0, h1, h2, h3, cond_true, cond_false]
         unfold bind_world_any_itLT at hT
         rw [hF] at hT
         exact hT.1 rfl
       · exact absurd h3 (by simp)
     · exact absurd h2 (by simp)
   · refine ⟨fun h2 => ?_, fun h2 => ?_⟩
     · exact absurd h2 (by simp)
     · have hF : bind_world_any_itLF a1 b0 b1 (b0.drop i) = bind_world_any_itLF a1 b0 b1 (b0.drop (i + 1)) := by rw [hd]; first | exact (cond_f h1 (cond_f h2 rfl)) | simp only [bind_world_any_itLF, h0, h1, h2, cond_true, cond_false]
       refine ⟨⟨(i + 1), by show (i + 1) ≤ b0.length; omega⟩, by show b0.length - (i + 1) < b0.length - i; omega, ?_, ?_⟩
       · show _ = bind_world_any_itLS a1 b0 b1 (i + 1)
         unfold bind_world_any_itLS
         simp only [hw]
       · show (bind_world_any_itLT a1 b0 b1 (i + 1)).All Q
         unfold bind_world_any_itLT at hT ⊢
         rw [hF] at hT
         exact hT
 · have hge : ¬ i < b0.length := by simpa using h0
   have hd : b0.drop i = [] := List.drop_eq_nil_of_le (by omega)
   have hF : bind_world_any_itLF a1 b0 b1 (b0.drop i) = false := by rw [hd]; first | exact rfl | simp only [bind_world_any_itLF, h0, cond_true, cond_false]
   unfold bind_world_any_itLT at hT
   rw [hF] at hT
   exact hT.2 rfl
def bind_world_any_itS (a1 : Int) (b0 : List XObj) (b1 : XObj) : St :=
 ⟨slots 12 [(6, .ptr 2 0), (10, .fn 41 [.ptr 3 0, .ptr 4 0, .ptr 5 0])], [.vec true ⟨.obj, b0⟩, .cells 32 (oc b1), .cells 4 [.bool false], .cells 67 [.vec 0], .cells 27 [.int .u8 (bind_world_some_2F a1 b0 b1)], .cells 73 [.fn 17 [.ptr 1 0]]]⟩
def bind_world_any_itF (a1 : Int) (b0 : List XObj) (b1 : XObj) : Bool :=
 cond (bind_world_any_itLF a1 b0 b1 b0)
  true
  false
def bind_world_any_itR (a1 : Int) (b0 : List XObj) (b1 : XObj) : RT :=
 (.ask (bind_world_any_itLF a1 b0 b1 b0)
   (.leaf .ret ⟨slots 30 [], [.vec true ⟨.obj, b0⟩, .cells 32 (oc b1), .cells 4 [.bool true], .cells 67 [.vec 0], .cells 27 [.int .u8 (bind_world_some_2F a1 b0 b1)], .cells 73 [.fn 17 [.ptr 1 0]], .loop 1 (slots 12 [(6, .ptr 2 0)]) (some (.ret))]⟩ [])
   (.leaf .normal ⟨slots 30 [], [.vec true ⟨.obj, b0⟩, .cells 32 (oc b1), .cells 4 [.bool false], .cells 67 [.vec 0], .cells 27 [.int .u8 (bind_world_some_2F a1 b0 b1)], .cells 73 [.fn 17 [.ptr 1 0]], .loop 1 (slots 12 [(6, .ptr 2 0)]) none]⟩ []))
def bind_world_any_itT (a1 : Int) (b0 : List XObj) (b1 : XObj) : Tree :=
 .ask (bind_world_any_itF a1 b0 b1) (.leaf .ret ⟨slots 12 [(6, .ptr 2 0), (10, .fn 41 [.ptr 3 0, .ptr 4 0, .ptr 5 0])], [.vec true ⟨.obj, b0⟩, .cells 32 (oc b1), .cells 4 [.bool true], .cells 67 [.vec 0], .cells 27 [.int .u8 (bind_world_some_2F a1 b0 b1)], .cells 73 [.fn 17 [.ptr 1 0]], .dead]⟩) (.leaf .normal ⟨slots 12 [(6, .ptr 2 0), (10, .fn 41 [.ptr 3 0, .ptr 4 0, .ptr 5 0])], [.vec true ⟨.obj, b0⟩, .cells 32 (oc b1), .cells 4 [.bool false], .cells 67 [.vec 0], .cells 27 [.int .u8 (bind_world_some_2F a1 b0 b1)], .cells 73 [.fn 17 [.ptr 1 0]], .dead]⟩)
theorem bind_world_any_it_rg (a1 : Int) (b0 : List XObj) (b1 : XObj) (hp0 : b0.length < 4611686018427387904) (hp1 : ∀ o ∈ b0, o.Fine) (Q : Exit → St → Prop) (hT : (bind_world_any_itT a1 b0 b1).All Q) : Tr Tryz.prog 2 (loopAt Tryz.f16 0) (bind_world_any_itS a1 b0 b1) Q := by
 have hc : loopAt Tryz.f16 0 = .rangeFunc (.tmp 10) (Globs.site 1).1 (Globs.site 1).2.1 (Globs.site 1).2.2 := by kernel_rfl
 rw [hc]
 refine Tr_range (site := 1) (gf := 41) (fn := Tryz.f41) (c := bodyOf Tryz.f41) (cap := [.ptr 3 0, .ptr 4 0, .ptr 5 0]) 6 [6] (slots 12 [(6, .ptr 2 0)]) [.yld 6, .ptr 3 0, .ptr 4 0, .ptr 5 0] [.vec true ⟨.obj, b0⟩, .cells 32 (oc b1), .cells 4 [.bool false], .cells 67 [.vec 0], .cells 27 [.int .u8 (bind_world_some_2F a1 b0 b1)], .cells 73 [.fn 17 [.ptr 1 0]], .loop 1 (slots 12 [(6, .ptr 2 0)]) none] rfl (by kernel_rfl) (by kernel_rfl) rfl (by kernel_rfl) (by kernel_rfl) (by kernel_rfl) (by kernel_rfl) (by kernel_rfl) (by kernel_rfl) (by kernel_rfl) (by kernel_rfl) ?_
 refine Tr_tree (kok _ _ _ _ _ _) (E := E_bind_world_any_it) (L := (loopsOf [(0, bind_world_any_itLS a1 b0 b1 0, [], bind_world_any_itLT a1 b0 b1 0)])) 60 9999 (LoopsOk.one (g := loopAt Tryz.f41 0) (b := 0) (by kernel_rfl) (by kernel_rfl) (by kernel_rfl) (by kernel_rfl) (fun Q h => bind_world_any_itL_loop a1 b0 b1 hp0 hp1 (by first | assumption | omega | exact of_short _ (by first | assumption | omega | exact Nat.le_trans (w12_few_len _) (by decide)) | exact r12_Uniq_short _ (by first | assumption | omega | exact Nat.le_trans (w12_few_len _) (by decide)) | exact Nat.lt_of_le_of_lt (w12_few_len _) (by decide) | decide | (simp only [List.length_append, List.length_cons, List.length_nil]; have := w12_few_len a0; omega)) ⟨0, by first | exact Nat.zero_le _ | (show 0 ≤ b0.length; omega) | (show 0 ≤ b0.length; exact ⟨Nat.zero_le _, by assumption⟩) | (show 0 ≤ b0.length; simp)⟩ Q h)) (bind_world_any_itR a1 b0 b1) (by kernel_rfl) (by kernel_rfl) (by kernel_rfl) ?_
 unfold bind_world_any_itR
 refine ⟨fun h0 => ?_, fun h0 => ?_⟩
 · have hF : bind_world_any_itF a1 b0 b1 = true := by first | exact (cond_t h0 rfl) | simp only [bind_world_any_itF, h0, cond_true, cond_false]
   unfold bind_world_any_itT at hT
   rw [hF] at hT
   exact ⟨⟨trivial, .tup [], by kernel_rfl⟩, (some (.ret)), [.vec true ⟨.obj, b0⟩, .cells 32 (oc b1), .cells 4 [.bool true], .cells 67 [.vec 0], .cells 27 [.int .u8 (bind_world_some_2F a1 b0 b1)], .cells 73 [.fn 17 [.ptr 1 0]], .dead], by kernel_rfl, rfl, by kernel_rfl, by kernel_rfl, by kernel_rfl, by kernel_rfl, hT.1 rfl⟩
 · have hF : bind_world_any_itF a1 b0 b1 = false := by first | exact (cond_f h0 rfl) | simp only [bind_world_any_itF, h0, cond_true, cond_false]
   unfold bind_world_any_itT at hT
   rw [hF] at hT
   exact ⟨⟨trivial, .tup [], by kernel_rfl⟩, none, [.vec true ⟨.obj, b0⟩, .cells 32 (oc b1), .cells 4 [.bool false], .cells 67 [.vec 0], .cells 27 [.int .u8 (bind_world_some_2F a1 b0 b1)], .cells 73 [.fn 17 [.ptr 1 0]], .dead], by kernel_rfl, rfl, by kernel_rfl, by kernel_rfl, by kernel_rfl, by kernel_rfl, hT.2 rfl⟩
noncomputable def E_bind_world_any : Env := envOf (P := Tryz.prog) [bind_world_some_2_fact] [] [] ckf
def bind_world_anyF (a1 : Int) (b0 : List XObj) (b1 : XObj) : Bool :=
 cond (bind_world_any_itF a1 b0 b1)
  true
  false
def bind_world_anyR (a1 : Int) (b0 : List XObj) (b1 : XObj) : RT :=
 (.ask (bind_world_any_itF a1 b0 b1)
   (.leaf .ret ⟨slots 12 [(6, .ptr 2 0)], [.vec true ⟨.obj, b0⟩, .cells 32 (oc b1), .cells 4 [.bool true]]⟩ [])
   (.leaf .ret ⟨slots 12 [(6, .ptr 2 0)], [.vec true ⟨.obj, b0⟩, .cells 32 (oc b1), .cells 4 [.bool false]]⟩ []))
theorem bind_world_anyF_tr (a1 : Int) (b0 : List XObj) (b1 : XObj) (hp0 : b0.length < 4611686018427387904) (hp1 : ∀ o ∈ b0, o.Fine) : Tr Tryz.prog 2 (bodyOf Tryz.f16) (fnBegins Tryz.f16 [.agg [.vec 0], .int .u8 a1, .fn 17 [.ptr 1 0]] [.vec true ⟨.obj, b0⟩, .cells 32 (oc b1)]) (fnEnds Tryz.prog Tryz.f16 (.bool (bind_world_anyF a1 b0 b1)) [.vec true ⟨.obj, b0⟩, .cells 32 (oc b1)]) := by
 refine Tr_tree (kok _ _ _ _ _ _) (E := E_bind_world_any) (L := (loopsOf [(0, bind_world_any_itS a1 b0 b1, [0, 1, 3, 4, 5, 6], bind_world_any_itT a1 b0 b1)])) 60 9999 (LoopsOk.oneR (g := loopAt Tryz.f16 0) (b := 0) (by kernel_rfl) (by kernel_rfl) (by kernel_rfl) (by kernel_rfl) (fun Q h => bind_world_any_it_rg a1 b0 b1 hp0 hp1 Q h)) (bind_world_anyR a1 b0 b1) (by kernel_rfl) (by kernel_rfl) (by kernel_rfl) ?_
 unfold bind_world_anyR
 refine ⟨fun h0 => ?_, fun h0 => ?_⟩
 · have hF : bind_world_anyF a1 b0 b1 = true := by first | exact (cond_t h0 rfl) | simp only [bind_world_anyF, h0, cond_true, cond_false]
   exact ⟨trivial, .inl (by first | (rw [hF]; kernel_rfl) | kernel_rfl), by first | (rw [hF]; kernel_rfl) | kernel_rfl⟩
 · have hF : bind_world_anyF a1 b0 b1 = false := by first | exact (cond_f h0 rfl) | simp only [bind_world_anyF, h0, cond_true, cond_false]
   exact ⟨trivial, .inl (by first | (rw [hF]; kernel_rfl) | kernel_rfl), by first | (rw [hF]; kernel_rfl) | kernel_rfl⟩
noncomputable def bind_world_any_fact : Fact Tryz.prog := factOf 16 Tryz.f16 (by kernel_rfl) rfl (by kernel_rfl) [.agg [.vec 0], .c (.int .u8), .fn 17 [.ptr 1 0]] [.vec true .obj, .st 32 .obj] true (fun t u => .bool (bind_world_anyF t.2.1 u.1 u.2.1)) (fun t u => HPL.enc _ u) (fun t u => [u.1.length < 4611686018427387904, ∀ o ∈ u.1, o.Fine])
 (fun _ _ _ => rfl) (fun t u => by kernel_rfl) (fun t u => by kernel_rfl) (fun t u h => bind_world_anyF_tr t.2.1 u.1 u.2.1 (h _ List.mem_cons_self) (h _ (List.mem_cons_of_mem _ List.mem_cons_self)))
noncomputable def E_bind_world_some_3 : Env := envOf (P := Tryz.prog) [] [] [] ckf
def bind_world_some_3F (a1 : Int) (b0 : List XObj) (b1 : XObj) : Int :=
 a1
def bind_world_some_3R (a1 : Int) (b0 : List XObj) (b1 : XObj) : RT :=
 (.leaf .ret ⟨slots 8 [(6, .fn 41 [.ptr 2 0, .ptr 3 0, .ptr 4 0])], [.vec true ⟨.obj, b0⟩, .cells 32 (oc b1), .cells 67 [.vec 0], .cells 27 [.int .u8 a1], .cells 73 [.fn 18 [.ptr 1 0]]]⟩ [])
theorem bind_world_some_3F_tr (a1 : Int) (b0 : List XObj) (b1 : XObj)  : Tr Tryz.prog 2 (bodyOf Tryz.f20) (fnBegins Tryz.f20 [.agg [.vec 0], .int .u8 a1, .fn 18 [.ptr 1 0]] [.vec true ⟨.obj, b0⟩, .cells 32 (oc b1)]) (fnEnds Tryz.prog Tryz.f20 (.fn 41 [.ptr 2 0, .ptr 3 0, .ptr 4 0]) [.vec true ⟨.obj, b0⟩, .cells 32 (oc b1), .cells 67 [.vec 0], .cells 27 [.int .u8 (bind_world_some_3F a1 b0 b1)], .cells 73 [.fn 18 [.ptr 1 0]]]) := by
 refine Tr_tree (kok _ _ _ _ _ _) (E := E_bind_world_some_3) (L := noLoops) 60 9999 LoopsOk.none (bind_world_some_3R a1 b0 b1) (by kernel_rfl) (by kernel_rfl) (by kernel_rfl) ?_
 unfold bind_world_some_3R
 exact ⟨trivial, .inl (by kernel_rfl), by kernel_rfl⟩
noncomputable def bind_world_some_3_fact0 : Fact Tryz.prog := factOf 20 Tryz.f20 (by kernel_rfl) rfl (by kernel_rfl) [.agg [.vec 0], .c (.int .u8), .fn 18 [.ptr 1 0]] [.vec true .obj, .st 32 .obj] false (fun t u => .fn 41 [.ptr 2 0, .ptr 3 0, .ptr 4 0]) (fun t u => [.vec true ⟨.obj, u.1⟩, .cells 32 (oc u.2.1), .cells 67 [.vec 0], .cells 27 [.int .u8 (bind_world_some_3F t.2.1 u.1 u.2.1)], .cells 73 [.fn 18 [.ptr 1 0]]]) (fun t u => [])
 (nofun) (fun t u => by kernel_rfl) (fun t u => by kernel_rfl) (fun t u h => bind_world_some_3F_tr t.2.1 u.1 u.2.1 )
noncomputable def bind_world_some_3_fact : Fact Tryz.prog := factThin bind_world_some_3_fact0 [.agg [.vec 0], .c (.int .u8), .fn 18 [.ptr 1 0]] [.vec true .obj, .st 32 .obj] (fun t u => .fn 41 [.ptr 2 0, .ptr 3 0, .ptr 4 0]) (fun t u => [.vec true ⟨.obj, u.1⟩, .cells 32 (oc u.2.1), .cells 67 [.vec 0], .cells 27 [.int .u8 (bind_world_some_3F t.2.1 u.1 u.2.1)], .cells 73 [.fn 18 [.ptr 1 0]]]) (fun t u => []) rfl [0, 1] (by
 intro t u k hk
 simp only [List.mem_cons, List.not_mem_nil, or_false] at hk
 rcases hk with rfl | rfl
 all_goals exact ⟨by decide, rfl⟩)
noncomputable def E_bind_Claim_2 : Env := envOf (P := Tryz.prog) [] [] [] ckf
def bind_Claim_2F (a0 : XObj) (b0 : XObj) : Bool :=
 decide (a0.volume = b0.volume)
def bind_Claim_2R (a0 : XObj) (b0 : XObj) : RT :=
 (.leaf .ret ⟨slots 9 [(3, .bool (decide (a0.volume = b0.volume)))], [.cells 32 (oc b0)]⟩ [])
theorem bind_Claim_2F_tr (a0 : XObj) (b0 : XObj)  : Tr Tryz.prog 1 (bodyOf Tryz.f18) (fnBegins Tryz.f18 [.agg (oc a0), .ptr 0 0] [.cells 32 (oc b0)]) (fnEnds Tryz.prog Tryz.f18 (.bool (bind_Claim_2F a0 b0)) [.cells 32 (oc b0)]) := by
 refine Tr_tree (kok _ _ _ _ _ _) (E := E_bind_Claim_2) (L := noLoops) 60 9999 LoopsOk.none (bind_Claim_2R a0 b0) (by kernel_rfl) (by kernel_rfl) (by kernel_rfl) ?_
 unfold bind_Claim_2R
 exact ⟨trivial, .inl (by kernel_rfl), by kernel_rfl⟩
noncomputable def bind_Claim_2_fact : Fact Tryz.prog := factOf 18 Tryz.f18 (by kernel_rfl) rfl (by kernel_rfl) [.st .obj, .c (.ptr 0 0)] [.st 32 .obj] true (fun t u => .bool (bind_Claim_2F t.1 u.1)) (fun t u => HPL.enc _ u) (fun t u => [])
 (fun _ _ _ => rfl) (fun t u => by kernel_rfl) (fun t u => by kernel_rfl) (fun t u h => bind_Claim_2F_tr t.1 u.1 )
noncomputable def E_bind_world_any_2_it : Env := envOf (P := Tryz.prog) [bind_Claim_2_fact] [] [] ckf false [bind_world_any_r_fact]
def bind_world_any_2_itLF (a1 : Int) (b0 : List XObj) (b1 : XObj) : List XObj → Bool
 | [] => false
 | o :: r => cond (cond ((o.kind) == (bind_world_some_3F a1 b0 b1)) (bind_Claim_2F o b1) false)
  true
  (bind_world_any_2_itLF a1 b0 b1 r)
def bind_world_any_2_itLS (a1 : Int) (b0 : List XObj) (b1 : XObj) (i : Nat) : St :=
 ⟨slots 30 [(0, .yld 6), (2, .ptr 4 0), (3, .ptr 5 0), (8, .vec 0), (9, .int .i64 (b0.length : Int)), (10, .int .i64 (i : Int))], [.vec true ⟨.obj, b0⟩, .cells 32 (oc b1), .cells 4 [.bool false], .cells 67 [.vec 0], .cells 27 [.int .u8 (bind_world_some_3F a1 b0 b1)], .cells 73 [.fn 18 [.ptr 1 0]], .loop 1 (slots 12 [(6, .ptr 2 0)]) none]⟩
def bind_world_any_2_itLR (a1 : Int) (b0 : List XObj) (b1 : XObj) (i : Nat) : RT :=
 (.ask (decide ((i : Int) < (b0.length : Int)))
   (.need [0 ≤ (i : Int) ∧ (i : Int) < (b0.length : Int)]
     (.ask (cond (((b0.getD i default).kind) == (bind_world_some_3F a1 b0 b1)) (bind_Claim_2F (b0.getD i default) b1) false)
       (.ask true
         (.ask true
           (.leaf .ret ⟨slots 30 [], [.vec true ⟨.obj, b0⟩, .cells 32 (oc b1), .cells 4 [.bool true], .cells 67 [.vec 0], .cells 27 [.int .u8 (bind_world_some_3F a1 b0 b1)], .cells 73 [.fn 18 [.ptr 1 0]], .loop 1 (slots 12 [(6, .ptr 2 0)]) (some (.ret))]⟩ [])
           .fail)
         .fail)
       (.ask false
         .fail
         (.leaf .normal ⟨slots 30 [(0, .yld 6), (2, .ptr 4 0), (3, .ptr 5 0), (8, .vec 0), (9, .int .i64 (b0.length : Int)), (10, .int .i64 (IntKind.i64.wrap ((i : Int) + (1 : Int))))], [.vec true ⟨.obj, b0⟩, .cells 32 (oc b1), .cells 4 [.bool false], .cells 67 [.vec 0], .cells 27 [.int .u8 (bind_world_some_3F a1 b0 b1)], .cells 73 [.fn 18 [.ptr 1 0]], .loop 1 (slots 12 [(6, .ptr 2 0)]) none]⟩ []))))
   (.leaf (.exit 0) ⟨slots 30 [], [.vec true ⟨.obj, b0⟩, .cells 32 (oc b1), .cells 4 [.bool false], .cells 67 [.vec 0], .cells 27 [.int .u8 (bind_world_some_3F a1 b0 b1)], .cells 73 [.fn 18 [.ptr 1 0]], .loop 1 (slots 12 [(6, .ptr 2 0)]) none]⟩ []))
def bind_world_any_2_itLT (a1 : Int) (b0 : List XObj) (b1 : XObj) (i : Nat) : Tree :=
 .ask (bind_world_any_2_itLF a1 b0 b1 (b0.drop i)) (.leaf .ret ⟨slots 30 [], [.vec true ⟨.obj, b0⟩, .cells 32 (oc b1), .cells 4 [.bool true], .cells 67 [.vec 0], .cells 27 [.int .u8 (bind_world_some_3F a1 b0 b1)], .cells 73 [.fn 18 [.ptr 1 0]], .loop 1 (slots 12 [(6, .ptr 2 0)]) (some (.ret))]⟩) (.leaf (.exit 0) ⟨slots 30 [], [.vec true ⟨.obj, b0⟩, .cells 32 (oc b1), .cells 4 [.bool false], .cells 67 [.vec 0], .cells 27 [.int .u8 (bind_world_some_3F a1 b0 b1)], .cells 73 [.fn 18 [.ptr 1 0]], .loop 1 (slots 12 [(6, .ptr 2 0)]) none]⟩)
theorem bind_world_any_2_itL_loop (a1 : Int) (b0 : List XObj) (b1 : XObj) (hp0 : b0.length < 4611686018427387904) (hp1 : ∀ o ∈ b0, o.Fine) (hlen : b0.length < 4611686018427387904) (z : { z : Nat // z ≤ b0.length }) (Q : Exit → St → Prop) (h : (bind_world_any_2_itLT a1 b0 b1 z.1).All Q) : Tr Tryz.prog 7 (.loop (loopAt Tryz.f41 0)) (bind_world_any_2_itLS a1 b0 b1 z.1) Q := by
 refine Tr_loopT (kok _ _ _ _ _ _) (E := E_bind_world_any_2_it) (ι := { z : Nat // z ≤ b0.length }) 60 0 (fun _ => noLoops) (fun z => bind_world_any_2_itLS a1 b0 b1 z.1) (fun z => bind_world_any_2_itLT a1 b0 b1 z.1) (fun z => bind_world_any_2_itLR a1 b0 b1 z.1) (fun z => b0.length - z.1) (fun _ => LoopsOk.none) (fun z => by obtain ⟨i, hi⟩ := z; kernel_rfl) (fun z => by obtain ⟨i, hi⟩ := z; kernel_rfl) (fun z => by obtain ⟨i, hi⟩ := z; kernel_rfl) ?_ z Q h
 rintro ⟨i, hi⟩ Q hT
 replace hT : (bind_world_any_2_itLT a1 b0 b1 i).All Q := hT
 replace hi : i ≤ b0.length := hi
 show (bind_world_any_2_itLR a1 b0 b1 i).All _
 unfold bind_world_any_2_itLR
 refine ⟨fun h0 => ?_, fun h0 => ?_⟩
 · have hlt : i < b0.length := by simpa using h0
   have hd := drop_getD hlt
   have hw := wrap_succ (i := i) (by omega)
   refine ⟨need_cons (by first | assumption | omega | (intro; omega) | (simp only [decide_eq_true_eq, decide_eq_false_iff_not, Bool.cond_false_right, Bool.cond_true_right, Bool.cond_true_left, Bool.cond_false_left, Bool.and_eq_true, Bool.or_eq_true, Bool.not_eq_true', bytesLim, maxLen, List.length_cons, List.length_nil, List.length_append, byteSize_lit] at *; omega) | (intro; simp only [decide_eq_true_eq, decide_eq_false_iff_not, Bool.cond_false_right, Bool.cond_true_right, Bool.cond_true_left, Bool.cond_false_left, Bool.and_eq_true, Bool.or_eq_true, Bool.not_eq_true', bytesLim, maxLen, List.length_cons, List.length_nil, List.length_append, byteSize_lit] at *; omega)) (need_nil), ?_⟩
   refine ⟨fun h1 => ?_, fun h1 => ?_⟩
   · refine ⟨fun h2 => ?_, fun h2 => ?_⟩
     · refine ⟨fun h3 => ?_, fun h3 => ?_⟩
       · have hF : bind_world_any_2_itLF a1 b0 b1 (b0.drop i) = true := by rw [hd]; first | exact (cond_t h1 (cond_t h2 (cond_t h3 rfl))) | simp only [bind_world_any_2_itLF, h0, h1, h2, h3, cond_true, cond_false]
         unfold bind_world_any_2_itLT at hT
         rw [hF] at hT
         exact hT.1 rfl
       · exact absurd h3 (by simp)
     · exact absurd h2 (by simp)
   · refine ⟨fun h2 => ?_, fun h2 => ?_⟩
     · exact absurd h2 (by simp)
     · have hF : bind_world_any_2_itLF a1 b0 b1 (b0.drop i) = bind_world_any_2_itLF a1 b0 b1 (b0.drop (i + 1)) := by rw [hd]; first | exact (cond_f h1 (cond_f h2 rfl)) | simp only [bind_world_any_2_itLF, h0, h1, h2, cond_true, cond_false]
       refine ⟨⟨(i + 1), by show (i + 1) ≤ b0.length; omega⟩, by show b0.length - (i + 1) < b0.length - i; omega, ?_, ?_⟩
       · show _ = bind_world_any_2_itLS a1 b0 b1 (i + 1)
         unfold bind_world_any_2_itLS
         simp only [hw]
       · show (bind_world_any_2_itLT a1 b0 b1 (i + 1)).All Q
         unfold bind_world_any_2_itLT at hT ⊢
         rw [hF] at hT
         exact hT
 · have hge : ¬ i < b0.length := by simpa using h0
   have hd : b0.drop i = [] := List.drop_eq_nil_of_le (by omega)
   have hF : bind_world_any_2_itLF a1 b0 b1 (b0.drop i) = false := by rw [hd]; first | exact rfl | simp only [bind_world_any_2_itLF, h0, cond_true, cond_false]
   unfold bind_world_any_2_itLT at hT
   rw [hF] at hT
   exact hT.2 rfl
def bind_world_any_2_itS (a1 : Int) (b0 : List XObj) (b1 : XObj) : St :=
 ⟨slots 12 [(6, .ptr 2 0), (10, .fn 41 [.ptr 3 0, .ptr 4 0, .ptr 5 0])], [.vec true ⟨.obj, b0⟩, .cells 32 (oc b1), .cells 4 [.bool false], .cells 67 [.vec 0], .cells 27 [.int .u8 (bind_world_some_3F a1 b0 b1)], .cells 73 [.fn 18 [.ptr 1 0]]]⟩
def bind_world_any_2_itF (a1 : Int) (b0 : List XObj) (b1 : XObj) : Bool :=
 cond (bind_world_any_2_itLF a1 b0 b1 b0)
  true
  false
def bind_world_any_2_itR (a1 : Int) (b0 : List XObj) (b1 : XObj) : RT :=
 (.ask (bind_world_any_2_itLF a1 b0 b1 b0)
   (.leaf .ret ⟨slots 30 [], [.vec true ⟨.obj, b0⟩, .cells 32 (oc b1), .cells 4 [.bool true], .cells 67 [.vec 0], .cells 27 [.int .u8 (bind_world_some_3F a1 b0 b1)], .cells 73 [.fn 18 [.ptr 1 0]], .loop 1 (slots 12 [(6, .ptr 2 0)]) (some (.ret))]⟩ [])
   (.leaf .normal ⟨slots 30 [], [.vec true ⟨.obj, b0⟩, .cells 32 (oc b1), .cells 4 [.bool false], .cells 67 [.vec 0], .cells 27 [.int .u8 (bind_world_some_3F a1 b0 b1)], .cells 73 [.fn 18 [.ptr 1 0]], .loop 1 (slots 12 [(6, .ptr 2 0)]) none]⟩ []))
def bind_world_any_2_itT (a1 : Int) (b0 : List XObj) (b1 : XObj) : Tree :=
 .ask (bind_world_any_2_itF a1 b0 b1) (.leaf .ret ⟨slots 12 [(6, .ptr 2 0), (10, .fn 41 [.ptr 3 0, .ptr 4 0, .ptr 5 0])], [.vec true ⟨.obj, b0⟩, .cells 32 (oc b1), .cells 4 [.bool true], .cells 67 [.vec 0], .cells 27 [.int .u8 (bind_world_some_3F a1 b0 b1)], .cells 73 [.fn 18 [.ptr 1 0]], .dead]⟩) (.leaf .normal ⟨slots 12 [(6, .ptr 2 0), (10, .fn 41 [.ptr 3 0, .ptr 4 0, .ptr 5 0])], [.vec true ⟨.obj, b0⟩, .cells 32 (oc b1), .cells 4 [.bool false], .cells 67 [.vec 0], .cells 27 [.int .u8 (bind_world_some_3F a1 b0 b1)], .cells 73 [.fn 18 [.ptr 1 0]], .dead]⟩)
theorem bind_world_any_2_it_rg (a1 : Int) (b0 : List XObj) (b1 : XObj) (hp0 : b0.length < 4611686018427387904) (hp1 : ∀ o ∈ b0, o.Fine) (Q : Exit → St → Prop) (hT : (bind_world_any_2_itT a1 b0 b1).All Q) : Tr Tryz.prog 2 (loopAt Tryz.f16 0) (bind_world_any_2_itS a1 b0 b1) Q := by
 have hc : loopAt Tryz.f16 0 = .rangeFunc (.tmp 10) (Globs.site 1).1 (Globs.site 1).2.1 (Globs.site 1).2.2 := by kernel_rfl
 rw [hc]
 refine Tr_range (site := 1) (gf := 41) (fn := Tryz.f41) (c := bodyOf Tryz.f41) (cap := [.ptr 3 0, .ptr 4 0, .ptr 5 0]) 6 [6] (slots 12 [(6, .ptr 2 0)]) [.yld 6, .ptr 3 0, .ptr 4 0, .ptr 5 0] [.vec true ⟨.obj, b0⟩, .cells 32 (oc b1), .cells 4 [.bool false], .cells 67 [.vec 0], .cells 27 [.int .u8 (bind_world_some_3F a1 b0 b1)], .cells 73 [.fn 18 [.ptr 1 0]], .loop 1 (slots 12 [(6, .ptr 2 0)]) none] rfl (by kernel_rfl) (by kernel_rfl) rfl (by kernel_rfl) (by kernel_rfl) (by kernel_rfl) (by kernel_rfl) (by kernel_rfl) (by kernel_rfl) (by kernel_rfl) (by kernel_rfl) ?_
 refine Tr_tree (kok _ _ _ _ _ _) (E := E_bind_world_any_2_it) (L := (loopsOf [(0, bind_world_any_2_itLS a1 b0 b1 0, [], bind_world_any_2_itLT a1 b0 b1 0)])) 60 9999 (LoopsOk.one (g := loopAt Tryz.f41 0) (b := 0) (by kernel_rfl) (by kernel_rfl) (by kernel_rfl) (by kernel_rfl) (fun Q h => bind_world_any_2_itL_loop a1 b0 b1 hp0 hp1 (by first | assumption | omega | exact of_short _ (by first | assumption | omega | exact Nat.le_trans (w12_few_len _) (by decide)) | exact r12_Uniq_short _ (by first | assumption | omega | exact Nat.le_trans (w12_few_len _) (by decide)) | exact Nat.lt_of_le_of_lt (w12_few_len _) (by decide) | decide | (simp only [List.length_append, List.length_cons, List.length_nil]; have := w12_few_len a0; omega)) ⟨0, by first | exact Nat.zero_le _ | (show 0 ≤ b0.length; omega) | (show 0 ≤ b0.length; exact ⟨Nat.zero_le _, by assumption⟩) | (show 0 ≤ b0.length; simp)⟩ Q h)) (bind_world_any_2_itR a1 b0 b1) (by kernel_rfl) (by kernel_rfl) (by kernel_rfl) ?_
 unfold bind_world_any_2_itR
 refine ⟨fun h0 => ?_, fun h0 => ?_⟩
 · have hF : bind_world_any_2_itF a1 b0 b1 = true := by first | exact (cond_t h0 rfl) | simp only [bind_world_any_2_itF, h0, cond_true, cond_false]
   unfold bind_world_any_2_itT at hT
   rw [hF] at hT
   exact ⟨⟨trivial, .tup [], by kernel_rfl⟩, (some (.ret)), [.vec true ⟨.obj, b0⟩, .cells 32 (oc b1), .cells 4 [.bool true], .cells 67 [.vec 0], .cells 27 [.int .u8 (bind_world_some_3F a1 b0 b1)], .cells 73 [.fn 18 [.ptr 1 0]], .dead], by kernel_rfl, rfl, by kernel_rfl, by kernel_rfl, by kernel_rfl, by kernel_rfl, hT.1 rfl⟩
 · have hF : bind_world_any_2_itF a1 b0 b1 = false := by first | exact (cond_f h0 rfl) | simp only [bind_world_any_2_itF, h0, cond_true, cond_false]
   unfold bind_world_any_2_itT at hT
   rw [hF] at hT
   exact ⟨⟨trivial, .tup [], by kernel_rfl⟩, none, [.vec true ⟨.obj, b0⟩, .cells 32 (oc b1), .cells 4 [.bool false], .cells 67 [.vec 0], .cells 27 [.int .u8 (bind_world_some_3F a1 b0 b1)], .cells 73 [.fn 18 [.ptr 1 0]], .dead], by kernel_rfl, rfl, by kernel_rfl, by kernel_rfl, by kernel_rfl, by kernel_rfl, hT.2 rfl⟩
noncomputable def E_bind_world_any_2 : Env := envOf (P := Tryz.prog) [bind_world_some_3_fact] [] [] ckf
def bind_world_any_2F (a1 : Int) (b0 : List XObj) (b1 : XObj) : Bool :=
 cond (bind_world_any_2_itF a1 b0 b1)
  true
  false
def bind_world_any_2R (a1 : Int) (b0 : List XObj) (b1 : XObj) : RT :=
 (.ask (bind_world_any_2_itF a1 b0 b1)
   (.leaf .ret ⟨slots 12 [(6, .ptr 2 0)], [.vec true ⟨.obj, b0⟩, .cells 32 (oc b1), .cells 4 [.bool true]]⟩ [])
   (.leaf .ret ⟨slots 12 [(6, .ptr 2 0)], [.vec true ⟨.obj, b0⟩, .cells 32 (oc b1), .cells 4 [.bool false]]⟩ []))
theorem bind_world_any_2F_tr (a1 : Int) (b0 : List XObj) (b1 : XObj) (hp0 : b0.length < 4611686018427387904) (hp1 : ∀ o ∈ b0, o.Fine) : Tr Tryz.prog 2 (bodyOf Tryz.f16) (fnBegins Tryz.f16 [.agg [.vec 0], .int .u8 a1, .fn 18 [.ptr 1 0]] [.vec true ⟨.obj, b0⟩, .cells 32 (oc b1)]) (fnEnds Tryz.prog Tryz.f16 (.bool (bind_world_any_2F a1 b0 b1)) [.vec true ⟨.obj, b0⟩, .cells 32 (oc b1)]) := by
 refine Tr_tree (kok _ _ _ _ _ _) (E := E_bind_world_any_2) (L := (loopsOf [(0, bind_world_any_2_itS a1 b0 b1, [0, 1, 3, 4, 5, 6], bind_world_any_2_itT a1 b0 b1)])) 60 9999 (LoopsOk.oneR (g := loopAt Tryz.f16 0) (b := 0) (by kernel_rfl) (by kernel_rfl) (by kernel_rfl) (by kernel_rfl) (fun Q h => bind_world_any_2_it_rg a1 b0 b1 hp0 hp1 Q h)) (bind_world_any_2R a1 b0 b1) (by kernel_rfl) (by kernel_rfl) (by kernel_rfl) ?_
 unfold bind_world_any_2R
 refine ⟨fun h0 => ?_, fun h0 => ?_⟩
 · have hF : bind_world_any_2F a1 b0 b1 = true := by first | exact (cond_t h0 rfl) | simp only [bind_world_any_2F, h0, cond_true, cond_false]
   exact ⟨trivial, .inl (by first | (rw [hF]; kernel_rfl) | kernel_rfl), by first | (rw [hF]; kernel_rfl) | kernel_rfl⟩
 · have hF : bind_world_any_2F a1 b0 b1 = false := by first | exact (cond_f h0 rfl) | simp only [bind_world_any_2F, h0, cond_true, cond_false]
   exact ⟨trivial, .inl (by first | (rw [hF]; kernel_rfl) | kernel_rfl), by first | (rw [hF]; kernel_rfl) | kernel_rfl⟩
noncomputable def bind_world_any_2_fact : Fact Tryz.prog := factOf 16 Tryz.f16 (by kernel_rfl) rfl (by kernel_rfl) [.agg [.vec 0], .c (.int .u8), .fn 18 [.ptr 1 0]] [.vec true .obj, .st 32 .obj] true (fun t u => .bool (bind_world_any_2F t.2.1 u.1 u.2.1)) (fun t u => HPL.enc _ u) (fun t u => [u.1.length < 4611686018427387904, ∀ o ∈ u.1, o.Fine])
 (fun _ _ _ => rfl) (fun t u => by kernel_rfl) (fun t u => by kernel_rfl) (fun t u h => bind_world_any_2F_tr t.2.1 u.1 u.2.1 (h _ List.mem_cons_self) (h _ (List.mem_cons_of_mem _ List.mem_cons_self)))
noncomputable def E_bind_remove : Env := envOf (P := Tryz.prog) [] [] [] ckf
def bind_removeF (a0 : XObj) : XAct :=
 (⟨(2 : Int), a0, (default : XCall)⟩ : XAct)
def bind_removeR (a0 : XObj) : RT :=
 (.leaf .ret ⟨slots 5 [(2, .ptr 0 0)], [.cells 39 [.int .u8 2, .int .u8 a0.kind, .str a0.name, .int .u64 a0.version, .int .u64 a0.born, .bool a0.deleting, .bool a0.hold, .str a0.cls, .int .i64 a0.size, .int .i64 a0.got, .int .u8 a0.mode, .bool a0.keep, .bool a0.wait, .str a0.zone, .str a0.node, .str a0.claim, .str a0.volume, .str a0.source, .int .u8 a0.phase, .int .u64 a0.num, .int .u64 a0.tag, .int .u8 0, .str (⟨#[]⟩ : ByteArray), .int .u64 0, .int .i64 0, .str (⟨#[]⟩ : ByteArray), .str (⟨#[]⟩ : ByteArray), .str (⟨#[]⟩ : ByteArray)]]⟩ [1])
theorem bind_removeF_tr (a0 : XObj)  : Tr Tryz.prog 0 (bodyOf Tryz.f19) (fnBegins Tryz.f19 [.agg (oc a0)] []) (fnEnds Tryz.prog Tryz.f19 (.agg (ac (bind_removeF a0))) []) := by
 refine Tr_tree (kok _ _ _ _ _ _) (E := E_bind_remove) (L := noLoops) 60 9999 LoopsOk.none (bind_removeR a0) (by kernel_rfl) (by kernel_rfl) (by kernel_rfl) ?_
 unfold bind_removeR
 exact ⟨trivial, .inl (by kernel_rfl), by kernel_rfl⟩
noncomputable def bind_remove_fact : Fact Tryz.prog := factOf 19 Tryz.f19 (by kernel_rfl) rfl (by kernel_rfl) [.st .obj] [] true (fun t u => .agg (ac (bind_removeF t.1))) (fun t u => []) (fun t u => [])
 (fun _ _ _ => rfl) (fun t u => by kernel_rfl) (fun t u => by kernel_rfl) (fun t u h => bind_removeF_tr t.1 )
noncomputable def E_bind_world_some_4 : Env := envOf (P := Tryz.prog) [] [] [] ckf
def bind_world_some_4F (a1 : Int) (b0 : List XObj) (b1 : XObj) : Int :=
 a1
def bind_world_some_4R (a1 : Int) (b0 : List XObj) (b1 : XObj) : RT :=
 (.leaf .ret ⟨slots 8 [(6, .fn 41 [.ptr 2 0, .ptr 3 0, .ptr 4 0])], [.vec true ⟨.obj, b0⟩, .cells 32 (oc b1), .cells 67 [.vec 0], .cells 27 [.int .u8 a1], .cells 73 [.fn 21 [.ptr 1 0]]]⟩ [])
theorem bind_world_some_4F_tr (a1 : Int) (b0 : List XObj) (b1 : XObj)  : Tr Tryz.prog 2 (bodyOf Tryz.f20) (fnBegins Tryz.f20 [.agg [.vec 0], .int .u8 a1, .fn 21 [.ptr 1 0]] [.vec true ⟨.obj, b0⟩, .cells 32 (oc b1)]) (fnEnds Tryz.prog Tryz.f20 (.fn 41 [.ptr 2 0, .ptr 3 0, .ptr 4 0]) [.vec true ⟨.obj, b0⟩, .cells 32 (oc b1), .cells 67 [.vec 0], .cells 27 [.int .u8 (bind_world_some_4F a1 b0 b1)], .cells 73 [.fn 21 [.ptr 1 0]]]) := by
 refine Tr_tree (kok _ _ _ _ _ _) (E := E_bind_world_some_4) (L := noLoops) 60 9999 LoopsOk.none (bind_world_some_4R a1 b0 b1) (by kernel_rfl) (by kernel_rfl) (by kernel_rfl) ?_
 unfold bind_world_some_4R
 exact ⟨trivial, .inl (by kernel_rfl), by kernel_rfl⟩
noncomputable def bind_world_some_4_fact0 : Fact Tryz.prog := factOf 20 Tryz.f20 (by kernel_rfl) rfl (by kernel_rfl) [.agg [.vec 0], .c (.int .u8), .fn 21 [.ptr 1 0]] [.vec true .obj, .st 32 .obj] false (fun t u => .fn 41 [.ptr 2 0, .ptr 3 0, .ptr 4 0]) (fun t u => [.vec true ⟨.obj, u.1⟩, .cells 32 (oc u.2.1), .cells 67 [.vec 0], .cells 27 [.int .u8 (bind_world_some_4F t.2.1 u.1 u.2.1)], .cells 73 [.fn 21 [.ptr 1 0]]]) (fun t u => [])
 (nofun) (fun t u => by kernel_rfl) (fun t u => by kernel_rfl) (fun t u h => bind_world_some_4F_tr t.2.1 u.1 u.2.1 )
noncomputable def bind_world_some_4_fact : Fact Tryz.prog := factThin bind_world_some_4_fact0 [.agg [.vec 0], .c (.int .u8), .fn 21 [.ptr 1 0]] [.vec true .obj, .st 32 .obj] (fun t u => .fn 41 [.ptr 2 0, .ptr 3 0, .ptr 4 0]) (fun t u => [.vec true ⟨.obj, u.1⟩, .cells 32 (oc u.2.1), .cells 67 [.vec 0], .cells 27 [.int .u8 (bind_world_some_4F t.2.1 u.1 u.2.1)], .cells 73 [.fn 21 [.ptr 1 0]]]) (fun t u => []) rfl [0, 1] (by
 intro t u k hk
 simp only [List.mem_cons, List.not_mem_nil, or_false] at hk
 rcases hk with rfl | rfl
 all_goals exact ⟨by decide, rfl⟩)
noncomputable def E_bind_Claim_3 : Env := envOf (P := Tryz.prog) [bind_Ref_fact] [] [] ckf
def bind_Claim_3F (a0 : XObj) (b0 : XObj) : Bool :=
 decide (a0.claim = (bind_RefF b0))
def bind_Claim_3R (a0 : XObj) (b0 : XObj) : RT :=
 (.need [b0.Fine]
   (.leaf .ret ⟨slots 9 [(3, .bool (decide (a0.claim = (bind_RefF b0))))], [.cells 32 (oc b0)]⟩ []))
theorem bind_Claim_3F_tr (a0 : XObj) (b0 : XObj) (hp0 : b0.Fine) : Tr Tryz.prog 1 (bodyOf Tryz.f21) (fnBegins Tryz.f21 [.agg (oc a0), .ptr 0 0] [.cells 32 (oc b0)]) (fnEnds Tryz.prog Tryz.f21 (.bool (bind_Claim_3F a0 b0)) [.cells 32 (oc b0)]) := by
 refine Tr_tree (kok _ _ _ _ _ _) (E := E_bind_Claim_3) (L := noLoops) 60 9999 LoopsOk.none (bind_Claim_3R a0 b0) (by kernel_rfl) (by kernel_rfl) (by kernel_rfl) ?_
 unfold bind_Claim_3R
 refine ⟨need_cons (by first | assumption | exact hp0) (need_nil), ?_⟩
 exact ⟨trivial, .inl (by kernel_rfl), by kernel_rfl⟩
noncomputable def bind_Claim_3_fact : Fact Tryz.prog := factOf 21 Tryz.f21 (by kernel_rfl) rfl (by kernel_rfl) [.st .obj, .c (.ptr 0 0)] [.st 32 .obj] true (fun t u => .bool (bind_Claim_3F t.1 u.1)) (fun t u => HPL.enc _ u) (fun t u => [u.1.Fine])
 (fun _ _ _ => rfl) (fun t u => by kernel_rfl) (fun t u => by kernel_rfl) (fun t u h => bind_Claim_3F_tr t.1 u.1 (h _ List.mem_cons_self))
noncomputable def E_bind_Claim_r : Env := envOf (P := Tryz.prog) [] [] [] ckf
def bind_Claim_rF (a1 : XObj) (b1 : XObj) (b2 : Bool) : XObj × Bool :=
 cond (cond (!b2) true (strLess a1.name b1.name))
  (a1, true)
  (b1, b2)
def bind_Claim_rQ (a1 : XObj) (b1 : XObj) (b2 : Bool) : RT :=
 (.leaf .normal ⟨slots 102 [(11, .ptr 1 0), (12, .ptr 2 0), (13, .ptr 3 0)], [.dead, .cells 32 (oc b1), .cells 4 [.bool b2], .cells 32 (oc a1)]⟩ [])
def bind_Claim_rR (a1 : XObj) (b1 : XObj) (b2 : Bool) : RT :=
 (.ask (cond (!b2) true (strLess a1.name b1.name))
   (.leaf .normal ⟨slots 102 [], [.dead, .cells 32 (oc a1), .cells 4 [.bool true]]⟩ [])
   (.leaf .normal ⟨slots 102 [], [.dead, .cells 32 (oc b1), .cells 4 [.bool b2]]⟩ []))
theorem bind_Claim_r_tr (a1 : XObj) (b1 : XObj) (b2 : Bool)  : Tr Tryz.prog 3 (Globs.site 2).2.1 ⟨slots 102 [(11, .ptr 1 0), (12, .ptr 2 0), (53, .agg (oc a1))], .dead :: [.cells 32 (oc b1), .cells 4 [.bool b2]]⟩ (fun e s1 => e = .normal ∧ Tr Tryz.prog 3 (Globs.site 2).2.2 s1 (rdEnds (true) .normal [.cells 32 (oc ((bind_Claim_rF a1 b1 b2).1)), .cells 4 [.bool ((bind_Claim_rF a1 b1 b2).2)]] .normal [.cells 32 (oc ((bind_Claim_rF a1 b1 b2).1)), .cells 4 [.bool ((bind_Claim_rF a1 b1 b2).2)]])) := by
 refine Tr_tree (kok _ _ _ _ _ _) (E := E_bind_Claim_r) (L := noLoops) 60 9999 LoopsOk.none (bind_Claim_rQ a1 b1 b2) (by kernel_rfl) (by kernel_rfl) (by kernel_rfl) ?_
 unfold bind_Claim_rQ
 refine ⟨rfl, ?_⟩
 refine Tr_tree (kok _ _ _ _ _ _) (E := E_bind_Claim_r) (L := noLoops) 60 9999 LoopsOk.none (bind_Claim_rR a1 b1 b2) (by kernel_rfl) (by kernel_rfl) (by kernel_rfl) ?_
 unfold bind_Claim_rR
 refine ⟨fun h0 => ?_, fun h0 => ?_⟩
 · have hF : bind_Claim_rF a1 b1 b2 = (a1, true) := by first | exact (cond_t h0 rfl) | simp only [bind_Claim_rF, h0, cond_true, cond_false]
   exact .inl ⟨rfl, rfl, by first | (rw [hF]; kernel_rfl) | kernel_rfl⟩
 · have hF : bind_Claim_rF a1 b1 b2 = (b1, b2) := by first | exact (cond_f h0 rfl) | simp only [bind_Claim_rF, h0, cond_true, cond_false]
   exact .inl ⟨rfl, rfl, by first | (rw [hF]; kernel_rfl) | kernel_rfl⟩
noncomputable def bind_Claim_r_fact : FactY Tryz.prog := factY 2 [.st .obj] (cpsOf 102 [(11, .ptr 1 0), (12, .ptr 2 0)]) [.st 32 .obj, .cells 4 [.bool]] (fun t u => true) .normal .normal none none (fun t u => [.cells 32 (oc ((bind_Claim_rF t.2.1 u.2.1 u.2.2.1.1).1)), .cells 4 [.bool ((bind_Claim_rF t.2.1 u.2.1 u.2.2.1.1).2)]]) (fun t u => [.cells 32 (oc ((bind_Claim_rF t.2.1 u.2.1 u.2.2.1.1).1)), .cells 4 [.bool ((bind_Claim_rF t.2.1 u.2.1 u.2.2.1.1).2)]]) (fun t u => []) rfl rfl
 (fun t u => by kernel_rfl) (fun t => by kernel_rfl) (fun t u => by kernel_rfl) (fun t u => by kernel_rfl) (fun t u => by kernel_rfl) (fun t u => slots 102 [(11, .ptr 1 0), (12, .ptr 2 0), (53, .agg (oc t.2.1))]) (fun t u => by kernel_rfl) (fun t u h => bind_Claim_r_tr t.2.1 u.2.1 u.2.2.1.1 )
noncomputable def E_bind_Claim_it : Env := envOf (P := Tryz.prog) [bind_Claim_3_fact] [] [] ckf false [bind_Claim_r_fact]
def bind_Claim_itLF (a0 : List XObj) (a2 : ByteArray) : List XObj → XObj → Bool → XObj × Bool
 | [], v4, v5 => (v4, v5)
 | o :: r, v4, v5 => cond (cond ((o.kind) == (bind_world_some_4F (4 : Int) (bind_ofF a0) ((bind_world_getF (3 : Int) a2 (bind_ofF a0)).1))) (bind_Claim_3F o ((bind_world_getF (3 : Int) a2 (bind_ofF a0)).1)) false)
  (bind_Claim_itLF a0 a2 r ((bind_Claim_rF o v4 v5).1) ((bind_Claim_rF o v4 v5).2))
  (bind_Claim_itLF a0 a2 r v4 v5)
def bind_Claim_itLS (a0 : List XObj) (a1 : Int) (a2 : ByteArray) (i : Nat) (v4 : XObj) (v5 : Bool) : St :=
 ⟨slots 30 [(0, .yld 9), (2, .ptr 6 0), (3, .ptr 7 0), (8, .vec 8), (9, .int .i64 ((bind_ofF a0).length : Int)), (10, .int .i64 (i : Int))], [.cells 39 [.int .u8 0, .int .u8 0, .str (⟨#[]⟩ : ByteArray), .int .u64 0, .int .u64 0, .bool false, .bool false, .str (⟨#[]⟩ : ByteArray), .int .i64 0, .int .i64 0, .int .u8 0, .bool false, .bool false, .str (⟨#[]⟩ : ByteArray), .str (⟨#[]⟩ : ByteArray), .str (⟨#[]⟩ : ByteArray), .str (⟨#[]⟩ : ByteArray), .str (⟨#[]⟩ : ByteArray), .int .u8 0, .int .u64 0, .int .u64 0, .int .u8 0, .str (⟨#[]⟩ : ByteArray), .int .u64 0, .int .i64 0, .str (⟨#[]⟩ : ByteArray), .str (⟨#[]⟩ : ByteArray), .str (⟨#[]⟩ : ByteArray)], .cells 67 [.vec 8], .cells 32 (oc ((bind_world_getF (3 : Int) a2 (bind_ofF a0)).1)), .cells 32 (oc v4), .cells 4 [.bool v5], .cells 67 [.vec 8], .cells 27 [.int .u8 (bind_world_some_4F (4 : Int) (bind_ofF a0) ((bind_world_getF (3 : Int) a2 (bind_ofF a0)).1))], .cells 73 [.fn 21 [.ptr 2 0]], .vec true ⟨.obj, bind_ofF a0⟩, .loop 2 (slots 102 [(11, .ptr 3 0), (12, .ptr 4 0)]) none]⟩
def bind_Claim_itLR (a0 : List XObj) (a1 : Int) (a2 : ByteArray) (i : Nat) (v4 : XObj) (v5 : Bool) : RT :=
 (.ask (decide ((i : Int) < ((bind_ofF a0).length : Int)))
   (.need [0 ≤ (i : Int) ∧ (i : Int) < ((bind_ofF a0).length : Int)]
     (.need [(((((bind_ofF a0).getD i default).kind) == (bind_world_some_4F (4 : Int) (bind_ofF a0) ((bind_world_getF (3 : Int) a2 (bind_ofF a0)).1))) = true) → (((bind_world_getF (3 : Int) a2 (bind_ofF a0)).1).Fine)]
       (.ask (cond ((((bind_ofF a0).getD i default).kind) == (bind_world_some_4F (4 : Int) (bind_ofF a0) ((bind_world_getF (3 : Int) a2 (bind_ofF a0)).1))) (bind_Claim_3F ((bind_ofF a0).getD i default) ((bind_world_getF (3 : Int) a2 (bind_ofF a0)).1)) false)
         (.ask true
           (.ask false
             .fail
             (.leaf .normal ⟨slots 30 [(0, .yld 9), (2, .ptr 6 0), (3, .ptr 7 0), (8, .vec 8), (9, .int .i64 ((bind_ofF a0).length : Int)), (10, .int .i64 (IntKind.i64.wrap ((i : Int) + (1 : Int))))], [.cells 39 [.int .u8 0, .int .u8 0, .str (⟨#[]⟩ : ByteArray), .int .u64 0, .int .u64 0, .bool false, .bool false, .str (⟨#[]⟩ : ByteArray), .int .i64 0, .int .i64 0, .int .u8 0, .bool false, .bool false, .str (⟨#[]⟩ : ByteArray), .str (⟨#[]⟩ : ByteArray), .str (⟨#[]⟩ : ByteArray), .str (⟨#[]⟩ : ByteArray), .str (⟨#[]⟩ : ByteArray), .int .u8 0, .int .u64 0, .int .u64 0, .int .u8 0, .str (⟨#[]⟩ : ByteArray), .int .u64 0, .int .i64 0, .str (⟨#[]⟩ : ByteArray), .str (⟨#[]⟩ : ByteArray), .str (⟨#[]⟩ : ByteArray)], .cells 67 [.vec 8], .cells 32 (oc ((bind_world_getF (3 : Int) a2 (bind_ofF a0)).1)), .cells 32 (oc ((bind_Claim_rF ((bind_ofF a0).getD i default) v4 v5).1)), .cells 4 [.bool ((bind_Claim_rF ((bind_ofF a0).getD i default) v4 v5).2)], .cells 67 [.vec 8], .cells 27 [.int .u8 (bind_world_some_4F (4 : Int) (bind_ofF a0) ((bind_world_getF (3 : Int) a2 (bind_ofF a0)).1))], .cells 73 [.fn 21 [.ptr 2 0]], .vec true ⟨.obj, bind_ofF a0⟩, .loop 2 (slots 102 [(11, .ptr 3 0), (12, .ptr 4 0)]) none]⟩ []))
           .fail)
         (.ask false
           .fail
           (.leaf .normal ⟨slots 30 [(0, .yld 9), (2, .ptr 6 0), (3, .ptr 7 0), (8, .vec 8), (9, .int .i64 ((bind_ofF a0).length : Int)), (10, .int .i64 (IntKind.i64.wrap ((i : Int) + (1 : Int))))], [.cells 39 [.int .u8 0, .int .u8 0, .str (⟨#[]⟩ : ByteArray), .int .u64 0, .int .u64 0, .bool false, .bool false, .str (⟨#[]⟩ : ByteArray), .int .i64 0, .int .i64 0, .int .u8 0, .bool false, .bool false, .str (⟨#[]⟩ : ByteArray), .str (⟨#[]⟩ : ByteArray), .str (⟨#[]⟩ : ByteArray), .str (⟨#[]⟩ : ByteArray), .str (⟨#[]⟩ : ByteArray), .int .u8 0, .int .u64 0, .int .u64 0, .int .u8 0, .str (⟨#[]⟩ : ByteArray), .int .u64 0, .int .i64 0, .str (⟨#[]⟩ : ByteArray), .str (⟨#[]⟩ : ByteArray), .str (⟨#[]⟩ : ByteArray)], .cells 67 [.vec 8], .cells 32 (oc ((bind_world_getF (3 : Int) a2 (bind_ofF a0)).1)), .cells 32 (oc v4), .cells 4 [.bool v5], .cells 67 [.vec 8], .cells 27 [.int .u8 (bind_world_some_4F (4 : Int) (bind_ofF a0) ((bind_world_getF (3 : Int) a2 (bind_ofF a0)).1))], .cells 73 [.fn 21 [.ptr 2 0]], .vec true ⟨.obj, bind_ofF a0⟩, .loop 2 (slots 102 [(11, .ptr 3 0), (12, .ptr 4 0)]) none]⟩ [])))))
   (.leaf (.exit 0) ⟨slots 30 [], [.cells 39 [.int .u8 0, .int .u8 0, .str (⟨#[]⟩ : ByteArray), .int .u64 0, .int .u64 0, .bool false, .bool false, .str (⟨#[]⟩ : ByteArray), .int .i64 0, .int .i64 0, .int .u8 0, .bool false, .bool false, .str (⟨#[]⟩ : ByteArray), .str (⟨#[]⟩ : ByteArray), .str (⟨#[]⟩ : ByteArray), .str (⟨#[]⟩ : ByteArray), .str (⟨#[]⟩ : ByteArray), .int .u8 0, .int .u64 0, .int .u64 0, .int .u8 0, .str (⟨#[]⟩ : ByteArray), .int .u64 0, .int .i64 0, .str (⟨#[]⟩ : ByteArray), .str (⟨#[]⟩ : ByteArray), .str (⟨#[]⟩ : ByteArray)], .cells 67 [.vec 8], .cells 32 (oc ((bind_world_getF (3 : Int) a2 (bind_ofF a0)).1)), .cells 32 (oc v4), .cells 4 [.bool v5], .cells 67 [.vec 8], .cells 27 [.int .u8 (bind_world_some_4F (4 : Int) (bind_ofF a0) ((bind_world_getF (3 : Int) a2 (bind_ofF a0)).1))], .cells 73 [.fn 21 [.ptr 2 0]], .vec true ⟨.obj, bind_ofF a0⟩, .loop 2 (slots 102 [(11, .ptr 3 0), (12, .ptr 4 0)]) none]⟩ []))
def bind_Claim_itLT (a0 : List XObj) (a1 : Int) (a2 : ByteArray) (i : Nat) (v4 : XObj) (v5 : Bool) : Tree :=
 .leaf (.exit 0) ⟨slots 30 [], [.cells 39 [.int .u8 0, .int .u8 0, .str (⟨#[]⟩ : ByteArray), .int .u64 0, .int .u64 0, .bool false, .bool false, .str (⟨#[]⟩ : ByteArray), .int .i64 0, .int .i64 0, .int .u8 0, .bool false, .bool false, .str (⟨#[]⟩ : ByteArray), .str (⟨#[]⟩ : ByteArray), .str (⟨#[]⟩ : ByteArray), .str (⟨#[]⟩ : ByteArray), .str (⟨#[]⟩ : ByteArray), .int .u8 0, .int .u64 0, .int .u64 0, .int .u8 0, .str (⟨#[]⟩ : ByteArray), .int .u64 0, .int .i64 0, .str (⟨#[]⟩ : ByteArray), .str (⟨#[]⟩ : ByteArray), .str (⟨#[]⟩ : ByteArray)], .cells 67 [.vec 8], .cells 32 (oc ((bind_world_getF (3 : Int) a2 (bind_ofF a0)).1)), .cells 32 (oc ((bind_Claim_itLF a0 a2 ((bind_ofF a0).drop i) v4 v5).1)), .cells 4 [.bool ((bind_Claim_itLF a0 a2 ((bind_ofF a0).drop i) v4 v5).2)], .cells 67 [.vec 8], .cells 27 [.int .u8 (bind_world_some_4F (4 : Int) (bind_ofF a0) ((bind_world_getF (3 : Int) a2 (bind_ofF a0)).1))], .cells 73 [.fn 21 [.ptr 2 0]], .vec true ⟨.obj, bind_ofF a0⟩, .loop 2 (slots 102 [(11, .ptr 3 0), (12, .ptr 4 0)]) none]⟩
theorem bind_Claim_itL_loop (a0 : List XObj) (a1 : Int) (a2 : ByteArray) (hp0 : a0.length ≤ 64) (hp1 : ∀ o ∈ a0, o.Fine) (hlen : (bind_ofF a0).length < 4611686018427387904) (z : { z : Nat × XObj × Bool // z.1 ≤ (bind_ofF a0).length }) (Q : Exit → St → Prop) (h : (bind_Claim_itLT a0 a1 a2 z.1.1 z.1.2.1 z.1.2.2).All Q) : Tr Tryz.prog 10 (.loop (loopAt Tryz.f41 0)) (bind_Claim_itLS a0 a1 a2 z.1.1 z.1.2.1 z.1.2.2) Q := by
 refine Tr_loopT (kok _ _ _ _ _ _) (E := E_bind_Claim_it) (ι := { z : Nat × XObj × Bool // z.1 ≤ (bind_ofF a0).length }) 60 0 (fun _ => noLoops) (fun z => bind_Claim_itLS a0 a1 a2 z.1.1 z.1.2.1 z.1.2.2) (fun z => bind_Claim_itLT a0 a1 a2 z.1.1 z.1.2.1 z.1.2.2) (fun z => bind_Claim_itLR a0 a1 a2 z.1.1 z.1.2.1 z.1.2.2) (fun z => (bind_ofF a0).length - z.1.1) (fun _ => LoopsOk.none) (fun z => by obtain ⟨⟨i, v4, v5⟩, hi⟩ := z; kernel_rfl) (fun z => by obtain ⟨⟨i, v4, v5⟩, hi⟩ := z; kernel_rfl) (fun z => by obtain ⟨⟨i, v4, v5⟩, hi⟩ := z; kernel_rfl) ?_ z Q h
 rintro ⟨⟨i, v4, v5⟩, hi⟩ Q hT
 replace hT : (bind_Claim_itLT a0 a1 a2 i v4 v5).All Q := hT
 replace hi : i ≤ (bind_ofF a0).length := hi
 show (bind_Claim_itLR a0 a1 a2 i v4 v5).All _
 unfold bind_Claim_itLR
 refine ⟨fun h0 => ?_, fun h0 => ?_⟩
 · have hlt : i < (bind_ofF a0).length := by simpa using h0
   have hd := drop_getD hlt
   have hw := wrap_succ (i := i) (by omega)
   refine ⟨need_cons (by first | assumption | omega | (intro; omega) | (simp only [decide_eq_true_eq, decide_eq_false_iff_not, Bool.cond_false_right, Bool.cond_true_right, Bool.cond_true_left, Bool.cond_false_left, Bool.and_eq_true, Bool.or_eq_true, Bool.not_eq_true', bytesLim, maxLen, List.length_cons, List.length_nil, List.length_append, byteSize_lit] at *; omega) | (intro; simp only [decide_eq_true_eq, decide_eq_false_iff_not, Bool.cond_false_right, Bool.cond_true_right, Bool.cond_true_left, Bool.cond_false_left, Bool.and_eq_true, Bool.or_eq_true, Bool.not_eq_true', bytesLim, maxLen, List.length_cons, List.length_nil, List.length_append, byteSize_lit] at *; omega)) (need_nil), ?_⟩
   refine ⟨need_cons (by (try refine fun (_ : _ = _) => ?_); first | assumption | exact get_fine _ _ _ (by first | assumption | exact of_fine _ (by first | assumption | exact w12_few_fine (by assumption)) | exact r12_Uniq_fine _ (by first | assumption | exact w12_few_fine (by assumption)) | exact w12_few_fine (by assumption)) | exact r12_Get_fine _ _ _ (by first | assumption | exact of_fine _ (by first | assumption | exact w12_few_fine (by assumption)) | exact r12_Uniq_fine _ (by first | assumption | exact w12_few_fine (by assumption)) | exact w12_few_fine (by assumption)) | exact fine_default | exact hp1 _ (gD_mem (by assumption)) | exact r12_Uniq_fine _ (by assumption) _ (gD_mem (by assumption)) | exact of_fine _ (by assumption) _ (gD_mem (by assumption)) | exact w12_few_fine (by assumption) _ (gD_mem (by assumption)) | exact hp1 | exact hp0 | (refine ⟨?_, ?_, ?_, ?_, ?_, ?_, ?_, ?_, ?_⟩ <;> first | assumption | decide | (simp only [size_mk]; decide))) (need_nil), ?_⟩
   refine ⟨fun h1 => ?_, fun h1 => ?_⟩
   · refine ⟨fun h2 => ?_, fun h2 => ?_⟩
     · refine ⟨fun h3 => ?_, fun h3 => ?_⟩
       · exact absurd h3 (by simp)
       · have hF : bind_Claim_itLF a0 a2 ((bind_ofF a0).drop i) v4 v5 = bind_Claim_itLF a0 a2 ((bind_ofF a0).drop (i + 1)) ((bind_Claim_rF ((bind_ofF a0).getD i default) v4 v5).1) ((bind_Claim_rF ((bind_ofF a0).getD i default) v4 v5).2) := by rw [hd]; first | exact (cond_t h1 (cond_t h2 (cond_f h3 rfl))) | simp only [bind_Claim_itLF, h0, h1, h2, h3, cond_true, cond_false]
         refine ⟨⟨((i + 1), ((bind_Claim_rF ((bind_ofF a0).getD i default) v4 v5).1), (bind_Claim_rF ((bind_ofF a0).getD i default) v4 v5).2), by show (i + 1) ≤ (bind_ofF a0).length; omega⟩, by show (bind_ofF a0).length - (i + 1) < (bind_ofF a0).length - i; omega, ?_, ?_⟩
         · show _ = bind_Claim_itLS a0 a1 a2 (i + 1) ((bind_Claim_rF ((bind_ofF a0).getD i default) v4 v5).1) ((bind_Claim_rF ((bind_ofF a0).getD i default) v4 v5).2)
           unfold bind_Claim_itLS
           simp only [hw]
         · show (bind_Claim_itLT a0 a1 a2 (i + 1) ((bind_Claim_rF ((bind_ofF a0).getD i default) v4 v5).1) ((bind_Claim_rF ((bind_ofF a0).getD i default) v4 v5).2)).All Q
           unfold bind_Claim_itLT at hT ⊢
           rw [hF] at hT
           exact hT
     · exact absurd h2 (by simp)
   · refine ⟨fun h2 => ?_, fun h2 => ?_⟩
     · exact absurd h2 (by simp)
     · have hF : bind_Claim_itLF a0 a2 ((bind_ofF a0).drop i) v4 v5 = bind_Claim_itLF a0 a2 ((bind_ofF a0).drop (i + 1)) v4 v5 := by rw [hd]; first | exact (cond_f h1 (cond_f h2 rfl)) | simp only [bind_Claim_itLF, h0, h1, h2, cond_true, cond_false]
       refine ⟨⟨((i + 1), v4, v5), by show (i + 1) ≤ (bind_ofF a0).length; omega⟩, by show (bind_ofF a0).length - (i + 1) < (bind_ofF a0).length - i; omega, ?_, ?_⟩
       · show _ = bind_Claim_itLS a0 a1 a2 (i + 1) v4 v5
         unfold bind_Claim_itLS
         simp only [hw]
       · show (bind_Claim_itLT a0 a1 a2 (i + 1) v4 v5).All Q
         unfold bind_Claim_itLT at hT ⊢
         rw [hF] at hT
         exact hT
 · have hge : ¬ i < (bind_ofF a0).length := by simpa using h0
   have hd : (bind_ofF a0).drop i = [] := List.drop_eq_nil_of_le (by omega)
   have hF : bind_Claim_itLF a0 a2 ((bind_ofF a0).drop i) v4 v5 = (v4, v5) := by rw [hd]; first | exact rfl | simp only [bind_Claim_itLF, h0, cond_true, cond_false]
   unfold bind_Claim_itLT at hT
   rw [hF] at hT
   exact hT
def bind_Claim_itS (a0 : List XObj) (a1 : Int) (a2 : ByteArray) : St :=
 ⟨slots 102 [(1, .int .u64 a1), (6, .ptr 0 0), (7, .ptr 1 0), (8, .ptr 2 0), (11, .ptr 3 0), (12, .ptr 4 0), (52, .fn 41 [.ptr 5 0, .ptr 6 0, .ptr 7 0])], [.cells 39 [.int .u8 0, .int .u8 0, .str (⟨#[]⟩ : ByteArray), .int .u64 0, .int .u64 0, .bool false, .bool false, .str (⟨#[]⟩ : ByteArray), .int .i64 0, .int .i64 0, .int .u8 0, .bool false, .bool false, .str (⟨#[]⟩ : ByteArray), .str (⟨#[]⟩ : ByteArray), .str (⟨#[]⟩ : ByteArray), .str (⟨#[]⟩ : ByteArray), .str (⟨#[]⟩ : ByteArray), .int .u8 0, .int .u64 0, .int .u64 0, .int .u8 0, .str (⟨#[]⟩ : ByteArray), .int .u64 0, .int .i64 0, .str (⟨#[]⟩ : ByteArray), .str (⟨#[]⟩ : ByteArray), .str (⟨#[]⟩ : ByteArray)], .cells 67 [.vec 8], .cells 32 (oc ((bind_world_getF (3 : Int) a2 (bind_ofF a0)).1)), .cells 32 [.int .u8 0, .str (⟨#[]⟩ : ByteArray), .int .u64 0, .int .u64 0, .bool false, .bool false, .str (⟨#[]⟩ : ByteArray), .int .i64 0, .int .i64 0, .int .u8 0, .bool false, .bool false, .str (⟨#[]⟩ : ByteArray), .str (⟨#[]⟩ : ByteArray), .str (⟨#[]⟩ : ByteArray), .str (⟨#[]⟩ : ByteArray), .str (⟨#[]⟩ : ByteArray), .int .u8 0, .int .u64 0, .int .u64 0], .cells 4 [.bool false], .cells 67 [.vec 8], .cells 27 [.int .u8 (bind_world_some_4F (4 : Int) (bind_ofF a0) ((bind_world_getF (3 : Int) a2 (bind_ofF a0)).1))], .cells 73 [.fn 21 [.ptr 2 0]], .vec true ⟨.obj, bind_ofF a0⟩]⟩
def bind_Claim_itR (a0 : List XObj) (a1 : Int) (a2 : ByteArray) : RT :=
 (.leaf .normal ⟨slots 30 [], [.cells 39 [.int .u8 0, .int .u8 0, .str (⟨#[]⟩ : ByteArray), .int .u64 0, .int .u64 0, .bool false, .bool false, .str (⟨#[]⟩ : ByteArray), .int .i64 0, .int .i64 0, .int .u8 0, .bool false, .bool false, .str (⟨#[]⟩ : ByteArray), .str (⟨#[]⟩ : ByteArray), .str (⟨#[]⟩ : ByteArray), .str (⟨#[]⟩ : ByteArray), .str (⟨#[]⟩ : ByteArray), .int .u8 0, .int .u64 0, .int .u64 0, .int .u8 0, .str (⟨#[]⟩ : ByteArray), .int .u64 0, .int .i64 0, .str (⟨#[]⟩ : ByteArray), .str (⟨#[]⟩ : ByteArray), .str (⟨#[]⟩ : ByteArray)], .cells 67 [.vec 8], .cells 32 (oc ((bind_world_getF (3 : Int) a2 (bind_ofF a0)).1)), .cells 32 (oc ((bind_Claim_itLF a0 a2 (bind_ofF a0) (default : XObj) false).1)), .cells 4 [.bool ((bind_Claim_itLF a0 a2 (bind_ofF a0) (default : XObj) false).2)], .cells 67 [.vec 8], .cells 27 [.int .u8 (bind_world_some_4F (4 : Int) (bind_ofF a0) ((bind_world_getF (3 : Int) a2 (bind_ofF a0)).1))], .cells 73 [.fn 21 [.ptr 2 0]], .vec true ⟨.obj, bind_ofF a0⟩, .loop 2 (slots 102 [(11, .ptr 3 0), (12, .ptr 4 0)]) none]⟩ [])
def bind_Claim_itT (a0 : List XObj) (a1 : Int) (a2 : ByteArray) : Tree :=
 .leaf .normal ⟨slots 102 [(1, .int .u64 a1), (6, .ptr 0 0), (7, .ptr 1 0), (8, .ptr 2 0), (11, .ptr 3 0), (12, .ptr 4 0), (52, .fn 41 [.ptr 5 0, .ptr 6 0, .ptr 7 0])], [.cells 39 [.int .u8 0, .int .u8 0, .str (⟨#[]⟩ : ByteArray), .int .u64 0, .int .u64 0, .bool false, .bool false, .str (⟨#[]⟩ : ByteArray), .int .i64 0, .int .i64 0, .int .u8 0, .bool false, .bool false, .str (⟨#[]⟩ : ByteArray), .str (⟨#[]⟩ : ByteArray), .str (⟨#[]⟩ : ByteArray), .str (⟨#[]⟩ : ByteArray), .str (⟨#[]⟩ : ByteArray), .int .u8 0, .int .u64 0, .int .u64 0, .int .u8 0, .str (⟨#[]⟩ : ByteArray), .int .u64 0, .int .i64 0, .str (⟨#[]⟩ : ByteArray), .str (⟨#[]⟩ : ByteArray), .str (⟨#[]⟩ : ByteArray)], .cells 67 [.vec 8], .cells 32 (oc ((bind_world_getF (3 : Int) a2 (bind_ofF a0)).1)), .cells 32 (oc ((bind_Claim_itLF a0 a2 (bind_ofF a0) (default : XObj) false).1)), .cells 4 [.bool ((bind_Claim_itLF a0 a2 (bind_ofF a0) (default : XObj) false).2)], .cells 67 [.vec 8], .cells 27 [.int .u8 (bind_world_some_4F (4 : Int) (bind_ofF a0) ((bind_world_getF (3 : Int) a2 (bind_ofF a0)).1))], .cells 73 [.fn 21 [.ptr 2 0]], .vec true ⟨.obj, bind_ofF a0⟩, .dead]⟩
theorem bind_Claim_it_rg (a0 : List XObj) (a1 : Int) (a2 : ByteArray) (hp0 : a0.length ≤ 64) (hp1 : ∀ o ∈ a0, o.Fine) (Q : Exit → St → Prop) (hT : (bind_Claim_itT a0 a1 a2).All Q) : Tr Tryz.prog 0 (loopAt Tryz.f6 0) (bind_Claim_itS a0 a1 a2) Q := by
 have hc : loopAt Tryz.f6 0 = .rangeFunc (.tmp 52) (Globs.site 2).1 (Globs.site 2).2.1 (Globs.site 2).2.2 := by kernel_rfl
 rw [hc]
 refine Tr_range (site := 2) (gf := 41) (fn := Tryz.f41) (c := bodyOf Tryz.f41) (cap := [.ptr 5 0, .ptr 6 0, .ptr 7 0]) 9 [11, 12] (slots 102 [(11, .ptr 3 0), (12, .ptr 4 0)]) [.yld 9, .ptr 5 0, .ptr 6 0, .ptr 7 0] [.cells 39 [.int .u8 0, .int .u8 0, .str (⟨#[]⟩ : ByteArray), .int .u64 0, .int .u64 0, .bool false, .bool false, .str (⟨#[]⟩ : ByteArray), .int .i64 0, .int .i64 0, .int .u8 0, .bool false, .bool false, .str (⟨#[]⟩ : ByteArray), .str (⟨#[]⟩ : ByteArray), .str (⟨#[]⟩ : ByteArray), .str (⟨#[]⟩ : ByteArray), .str (⟨#[]⟩ : ByteArray), .int .u8 0, .int .u64 0, .int .u64 0, .int .u8 0, .str (⟨#[]⟩ : ByteArray), .int .u64 0, .int .i64 0, .str (⟨#[]⟩ : ByteArray), .str (⟨#[]⟩ : ByteArray), .str (⟨#[]⟩ : ByteArray)], .cells 67 [.vec 8], .cells 32 (oc ((bind_world_getF (3 : Int) a2 (bind_ofF a0)).1)), .cells 32 [.int .u8 0, .str (⟨#[]⟩ : ByteArray), .int .u64 0, .int .u64 0, .bool false, .bool false, .str (⟨#[]⟩ : ByteArray), .int .i64 0, .int .i64 0, .int .u8 0, .bool false, .bool false, .str (⟨#[]⟩ : ByteArray), .str (⟨#[]⟩ : ByteArray), .str (⟨#[]⟩ : ByteArray), .str (⟨#[]⟩ : ByteArray), .str (⟨#[]⟩ : ByteArray), .int .u8 0, .int .u64 0, .int .u64 0], .cells 4 [.bool false], .cells 67 [.vec 8], .cells 27 [.int .u8 (bind_world_some_4F (4 : Int) (bind_ofF a0) ((bind_world_getF (3 : Int) a2 (bind_ofF a0)).1))], .cells 73 [.fn 21 [.ptr 2 0]], .vec true ⟨.obj, bind_ofF a0⟩, .loop 2 (slots 102 [(11, .ptr 3 0), (12, .ptr 4 0)]) none] rfl (by kernel_rfl) (by kernel_rfl) rfl (by kernel_rfl) (by kernel_rfl) (by kernel_rfl) (by kernel_rfl) (by kernel_rfl) (by kernel_rfl) (by kernel_rfl) (by kernel_rfl) ?_
 refine Tr_tree (kok _ _ _ _ _ _) (E := E_bind_Claim_it) (L := (loopsOf [(0, bind_Claim_itLS a0 a1 a2 0 (default : XObj) false, [], bind_Claim_itLT a0 a1 a2 0 (default : XObj) false)])) 60 9999 (LoopsOk.one (g := loopAt Tryz.f41 0) (b := 0) (by kernel_rfl) (by kernel_rfl) (by kernel_rfl) (by kernel_rfl) (fun Q h => bind_Claim_itL_loop a0 a1 a2 hp0 hp1 (by first | assumption | omega | exact of_short _ (by first | assumption | omega | exact Nat.le_trans (w12_few_len _) (by decide)) | exact r12_Uniq_short _ (by first | assumption | omega | exact Nat.le_trans (w12_few_len _) (by decide)) | exact Nat.lt_of_le_of_lt (w12_few_len _) (by decide) | decide | (simp only [List.length_append, List.length_cons, List.length_nil]; have := w12_few_len a0; omega)) ⟨(0, (default : XObj), false), by first | exact Nat.zero_le _ | (show 0 ≤ (bind_ofF a0).length; omega) | (show 0 ≤ (bind_ofF a0).length; exact ⟨Nat.zero_le _, by assumption⟩) | (show 0 ≤ (bind_ofF a0).length; simp)⟩ Q h)) (bind_Claim_itR a0 a1 a2) (by kernel_rfl) (by kernel_rfl) (by kernel_rfl) ?_
 unfold bind_Claim_itR
 unfold bind_Claim_itT at hT
 exact ⟨⟨trivial, .tup [], by kernel_rfl⟩, none, [.cells 39 [.int .u8 0, .int .u8 0, .str (⟨#[]⟩ : ByteArray), .int .u64 0, .int .u64 0, .bool false, .bool false, .str (⟨#[]⟩ : ByteArray), .int .i64 0, .int .i64 0, .int .u8 0, .bool false, .bool false, .str (⟨#[]⟩ : ByteArray), .str (⟨#[]⟩ : ByteArray), .str (⟨#[]⟩ : ByteArray), .str (⟨#[]⟩ : ByteArray), .str (⟨#[]⟩ : ByteArray), .int .u8 0, .int .u64 0, .int .u64 0, .int .u8 0, .str (⟨#[]⟩ : ByteArray), .int .u64 0, .int .i64 0, .str (⟨#[]⟩ : ByteArray), .str (⟨#[]⟩ : ByteArray), .str (⟨#[]⟩ : ByteArray)], .cells 67 [.vec 8], .cells 32 (oc ((bind_world_getF (3 : Int) a2 (bind_ofF a0)).1)), .cells 32 (oc ((bind_Claim_itLF a0 a2 (bind_ofF a0) (default : XObj) false).1)), .cells 4 [.bool ((bind_Claim_itLF a0 a2 (bind_ofF a0) (default : XObj) false).2)], .cells 67 [.vec 8], .cells 27 [.int .u8 (bind_world_some_4F (4 : Int) (bind_ofF a0) ((bind_world_getF (3 : Int) a2 (bind_ofF a0)).1))], .cells 73 [.fn 21 [.ptr 2 0]], .vec true ⟨.obj, bind_ofF a0⟩, .dead], by kernel_rfl, rfl, by kernel_rfl, by kernel_rfl, by kernel_rfl, by kernel_rfl, hT⟩
noncomputable def E_bind_write : Env := envOf (P := Tryz.prog) [] [] [] ckf
def bind_writeF (a0 : XObj) : XAct :=
 (⟨(1 : Int), a0, (default : XCall)⟩ : XAct)
def bind_writeR (a0 : XObj) : RT :=
 (.leaf .ret ⟨slots 5 [(2, .ptr 0 0)], [.cells 39 [.int .u8 1, .int .u8 a0.kind, .str a0.name, .int .u64 a0.version, .int .u64 a0.born, .bool a0.deleting, .bool a0.hold, .str a0.cls, .int .i64 a0.size, .int .i64 a0.got, .int .u8 a0.mode, .bool a0.keep, .bool a0.wait, .str a0.zone, .str a0.node, .str a0.claim, .str a0.volume, .str a0.source, .int .u8 a0.phase, .int .u64 a0.num, .int .u64 a0.tag, .int .u8 0, .str (⟨#[]⟩ : ByteArray), .int .u64 0, .int .i64 0, .str (⟨#[]⟩ : ByteArray), .str (⟨#[]⟩ : ByteArray), .str (⟨#[]⟩ : ByteArray)]]⟩ [1])
theorem bind_writeF_tr (a0 : XObj)  : Tr Tryz.prog 0 (bodyOf Tryz.f23) (fnBegins Tryz.f23 [.agg (oc a0)] []) (fnEnds Tryz.prog Tryz.f23 (.agg (ac (bind_writeF a0))) []) := by
 refine Tr_tree (kok _ _ _ _ _ _) (E := E_bind_write) (L := noLoops) 60 9999 LoopsOk.none (bind_writeR a0) (by kernel_rfl) (by kernel_rfl) (by kernel_rfl) ?_
 unfold bind_writeR
 exact ⟨trivial, .inl (by kernel_rfl), by kernel_rfl⟩
noncomputable def bind_write_fact : Fact Tryz.prog := factOf 23 Tryz.f23 (by kernel_rfl) rfl (by kernel_rfl) [.st .obj] [] true (fun t u => .agg (ac (bind_writeF t.1))) (fun t u => []) (fun t u => [])
 (fun _ _ _ => rfl) (fun t u => by kernel_rfl) (fun t u => by kernel_rfl) (fun t u h => bind_writeF_tr t.1 )
noncomputable def E_bind_ask : Env := envOf (P := Tryz.prog) [] [] [] ckf
def bind_askF (a0 : XCall) : XAct :=
 (⟨(3 : Int), (default : XObj), a0⟩ : XAct)
def bind_askR (a0 : XCall) : RT :=
 (.leaf .ret ⟨slots 5 [(2, .ptr 0 0)], [.cells 39 [.int .u8 3, .int .u8 0, .str (⟨#[]⟩ : ByteArray), .int .u64 0, .int .u64 0, .bool false, .bool false, .str (⟨#[]⟩ : ByteArray), .int .i64 0, .int .i64 0, .int .u8 0, .bool false, .bool false, .str (⟨#[]⟩ : ByteArray), .str (⟨#[]⟩ : ByteArray), .str (⟨#[]⟩ : ByteArray), .str (⟨#[]⟩ : ByteArray), .str (⟨#[]⟩ : ByteArray), .int .u8 0, .int .u64 0, .int .u64 0, .int .u8 a0.verb, .str a0.target, .int .u64 a0.num, .int .i64 a0.size, .str a0.zone, .str a0.node, .str a0.source]]⟩ [1])
theorem bind_askF_tr (a0 : XCall)  : Tr Tryz.prog 0 (bodyOf Tryz.f29) (fnBegins Tryz.f29 [.agg (cc a0)] []) (fnEnds Tryz.prog Tryz.f29 (.agg (ac (bind_askF a0))) []) := by
 refine Tr_tree (kok _ _ _ _ _ _) (E := E_bind_ask) (L := noLoops) 60 9999 LoopsOk.none (bind_askR a0) (by kernel_rfl) (by kernel_rfl) (by kernel_rfl) ?_
 unfold bind_askR
 exact ⟨trivial, .inl (by kernel_rfl), by kernel_rfl⟩
noncomputable def bind_ask_fact : Fact Tryz.prog := factOf 29 Tryz.f29 (by kernel_rfl) rfl (by kernel_rfl) [.st .call] [] true (fun t u => .agg (ac (bind_askF t.1))) (fun t u => []) (fun t u => [])
 (fun _ _ _ => rfl) (fun t u => by kernel_rfl) (fun t u => by kernel_rfl) (fun t u h => bind_askF_tr t.1 )
noncomputable def E_bind_world_give : Env := envOf (P := Tryz.prog) [bind_remove_fact, bind_Handle_fact, bind_ask_fact, bind_write_fact] [] [] ckf
def bind_world_giveF (a1 : XObj) (a2 : Int) (b0 : List XObj) : XAct :=
 cond (a1.num == (0 : Int))
  (bind_removeF a1)
  (cond (!(a1.phase == (2 : Int)))
    (bind_askF (⟨(2 : Int), bind_HandleF a1, a1.num, (0 : Int), (⟨#[]⟩ : ByteArray), (⟨#[]⟩ : ByteArray), (⟨#[]⟩ : ByteArray)⟩ : XCall))
    (bind_writeF ({ a1 with phase := (1 : Int), num := (IntKind.u64.wrap (a2 + (1 : Int))) } : XObj)))
def bind_world_giveR (a1 : XObj) (a2 : Int) (b0 : List XObj) : RT :=
 (.ask (a1.num == (0 : Int))
   (.leaf .ret ⟨slots 27 [(6, .ptr 1 0)], [.vec true ⟨.obj, b0⟩, .cells 39 (ac (bind_removeF a1))]⟩ [0, 3])
   (.ask (!(a1.phase == (2 : Int)))
     (.need [a1.Fine]
       (.leaf .ret ⟨slots 27 [(6, .ptr 1 0)], [.vec true ⟨.obj, b0⟩, .cells 39 (ac (bind_askF (⟨(2 : Int), bind_HandleF a1, a1.num, (0 : Int), (⟨#[]⟩ : ByteArray), (⟨#[]⟩ : ByteArray), (⟨#[]⟩ : ByteArray)⟩ : XCall)))]⟩ [0, 3]))
     (.leaf .ret ⟨slots 27 [(6, .ptr 1 0)], [.vec true ⟨.obj, b0⟩, .cells 39 (ac (bind_writeF ({ a1 with phase := (1 : Int), num := (IntKind.u64.wrap (a2 + (1 : Int))) } : XObj)))]⟩ [0, 3])))
theorem bind_world_giveF_tr (a1 : XObj) (a2 : Int) (b0 : List XObj) (hp0 : a1.Fine) : Tr Tryz.prog 1 (bodyOf Tryz.f24) (fnBegins Tryz.f24 [.agg [.vec 0], .agg (oc a1), .int .u64 a2] [.vec true ⟨.obj, b0⟩]) (fnEnds Tryz.prog Tryz.f24 (.agg (ac (bind_world_giveF a1 a2 b0))) [.vec true ⟨.obj, b0⟩]) := by
 refine Tr_tree (kok _ _ _ _ _ _) (E := E_bind_world_give) (L := noLoops) 60 9999 LoopsOk.none (bind_world_giveR a1 a2 b0) (by kernel_rfl) (by kernel_rfl) (by kernel_rfl) ?_
 unfold bind_world_giveR
 refine ⟨fun h0 => ?_, fun h0 => ?_⟩
 · have hF : bind_world_giveF a1 a2 b0 = (bind_removeF a1) := by first | exact (cond_t h0 rfl) | simp only [bind_world_giveF, h0, cond_true, cond_false]
   exact ⟨trivial, .inl (by first | (rw [hF]; kernel_rfl) | kernel_rfl), by first | (rw [hF]; kernel_rfl) | kernel_rfl⟩
 · refine ⟨fun h1 => ?_, fun h1 => ?_⟩
   · refine ⟨need_cons (by (try refine fun (_ : _ = _) => ?_); first | assumption | exact get_fine _ _ _ (by first | assumption | exact of_fine _ (by first | assumption | exact w12_few_fine (by assumption)) | exact r12_Uniq_fine _ (by first | assumption | exact w12_few_fine (by assumption)) | exact w12_few_fine (by assumption)) | exact r12_Get_fine _ _ _ (by first | assumption | exact of_fine _ (by first | assumption | exact w12_few_fine (by assumption)) | exact r12_Uniq_fine _ (by first | assumption | exact w12_few_fine (by assumption)) | exact w12_few_fine (by assumption)) | exact fine_default | exact hp1 _ (gD_mem (by assumption)) | exact r12_Uniq_fine _ (by assumption) _ (gD_mem (by assumption)) | exact of_fine _ (by assumption) _ (gD_mem (by assumption)) | exact w12_few_fine (by assumption) _ (gD_mem (by assumption)) | exact hp1 | exact hp0 | (refine ⟨?_, ?_, ?_, ?_, ?_, ?_, ?_, ?_, ?_⟩ <;> first | assumption | decide | (simp only [size_mk]; decide))) (need_nil), ?_⟩
     have hF : bind_world_giveF a1 a2 b0 = (bind_askF (⟨(2 : Int), bind_HandleF a1, a1.num, (0 : Int), (⟨#[]⟩ : ByteArray), (⟨#[]⟩ : ByteArray), (⟨#[]⟩ : ByteArray)⟩ : XCall)) := by first | exact (cond_f h0 (cond_t h1 rfl)) | simp only [bind_world_giveF, h0, h1, cond_true, cond_false]
     exact ⟨trivial, .inl (by first | (rw [hF]; kernel_rfl) | kernel_rfl), by first | (rw [hF]; kernel_rfl) | kernel_rfl⟩
   · have hF : bind_world_giveF a1 a2 b0 = (bind_writeF ({ a1 with phase := (1 : Int), num := (IntKind.u64.wrap (a2 + (1 : Int))) } : XObj)) := by first | exact (cond_f h0 (cond_f h1 rfl)) | simp only [bind_world_giveF, h0, h1, cond_true, cond_false]
     exact ⟨trivial, .inl (by first | (rw [hF]; kernel_rfl) | kernel_rfl), by first | (rw [hF]; kernel_rfl) | kernel_rfl⟩
noncomputable def bind_world_give_fact : Fact Tryz.prog := factOf 24 Tryz.f24 (by kernel_rfl) rfl (by kernel_rfl) [.agg [.vec 0], .st .obj, .c (.int .u64)] [.vec true .obj] true (fun t u => .agg (ac (bind_world_giveF t.2.1 t.2.2.1 u.1))) (fun t u => HPL.enc _ u) (fun t u => [t.2.1.Fine])
 (fun _ _ _ => rfl) (fun t u => by kernel_rfl) (fun t u => by kernel_rfl) (fun t u h => bind_world_giveF_tr t.2.1 t.2.2.1 u.1 (h _ List.mem_cons_self))
noncomputable def E_bind_world_create : Env := envOf (P := Tryz.prog) [bind_Handle_fact, bind_world_get_fact, fmtU_fact, bind_ask_fact] [] [] ckf
def bind_world_createF (a1 : XObj) (b0 : List XObj) : XAct :=
 cond (!(decide (a1.source = (⟨#[]⟩ : ByteArray))))
  (cond (!((bind_world_getF (7 : Int) a1.source b0).2))
    (default : XAct)
    (bind_askF (⟨(1 : Int), bind_HandleF a1, a1.num, a1.size, a1.zone, (⟨#[]⟩ : ByteArray), (((⟨#[115, 110, 97, 112, 47]⟩ : ByteArray) ++ (((bind_world_getF (7 : Int) a1.source b0).1).name)) ++ (⟨#[35]⟩ : ByteArray)) ++ (fmtU (((bind_world_getF (7 : Int) a1.source b0).1).born))⟩ : XCall)))
  (bind_askF (⟨(1 : Int), bind_HandleF a1, a1.num, a1.size, a1.zone, (⟨#[]⟩ : ByteArray), (⟨#[]⟩ : ByteArray)⟩ : XCall))
def bind_world_createR (a1 : XObj) (b0 : List XObj) : RT :=
 (.need [a1.Fine]
   (.ask (!(decide (a1.source = (⟨#[]⟩ : ByteArray))))
     (.need [b0.length < 4611686018427387904, ∀ o ∈ b0, o.Fine]
       (.ask (!((bind_world_getF (7 : Int) a1.source b0).2))
         (.leaf .ret ⟨slots 41 [(4, .ptr 1 0)], [.vec true ⟨.obj, b0⟩, .cells 39 [.int .u8 0, .int .u8 0, .str (⟨#[]⟩ : ByteArray), .int .u64 0, .int .u64 0, .bool false, .bool false, .str (⟨#[]⟩ : ByteArray), .int .i64 0, .int .i64 0, .int .u8 0, .bool false, .bool false, .str (⟨#[]⟩ : ByteArray), .str (⟨#[]⟩ : ByteArray), .str (⟨#[]⟩ : ByteArray), .str (⟨#[]⟩ : ByteArray), .str (⟨#[]⟩ : ByteArray), .int .u8 0, .int .u64 0, .int .u64 0, .int .u8 0, .str (⟨#[]⟩ : ByteArray), .int .u64 0, .int .i64 0, .str (⟨#[]⟩ : ByteArray), .str (⟨#[]⟩ : ByteArray), .str (⟨#[]⟩ : ByteArray)]]⟩ [0, 3])
         (.need [(⟨#[115, 110, 97, 112, 47]⟩ : ByteArray).size + (((bind_world_getF (7 : Int) a1.source b0).1).name).size ≤ 9223372036854775807, ((⟨#[115, 110, 97, 112, 47]⟩ : ByteArray) ++ (((bind_world_getF (7 : Int) a1.source b0).1).name)).size + (⟨#[35]⟩ : ByteArray).size ≤ 9223372036854775807, 0 ≤ (((bind_world_getF (7 : Int) a1.source b0).1).born) ∧ (((bind_world_getF (7 : Int) a1.source b0).1).born) ≤ 18446744073709551615, (((⟨#[115, 110, 97, 112, 47]⟩ : ByteArray) ++ (((bind_world_getF (7 : Int) a1.source b0).1).name)) ++ (⟨#[35]⟩ : ByteArray)).size + (fmtU (((bind_world_getF (7 : Int) a1.source b0).1).born)).size ≤ 9223372036854775807]
           (.leaf .ret ⟨slots 41 [(4, .ptr 1 0)], [.vec true ⟨.obj, b0⟩, .cells 39 (ac (bind_askF (⟨(1 : Int), bind_HandleF a1, a1.num, a1.size, a1.zone, (⟨#[]⟩ : ByteArray), (((⟨#[115, 110, 97, 112, 47]⟩ : ByteArray) ++ (((bind_world_getF (7 : Int) a1.source b0).1).name)) ++ (⟨#[35]⟩ : ByteArray)) ++ (fmtU (((bind_world_getF (7 : Int) a1.source b0).1).born))⟩ : XCall)))]⟩ [0, 3]))))
     (.leaf .ret ⟨slots 41 [(4, .ptr 1 0)], [.vec true ⟨.obj, b0⟩, .cells 39 (ac (bind_askF (⟨(1 : Int), bind_HandleF a1, a1.num, a1.size, a1.zone, (⟨#[]⟩ : ByteArray), (⟨#[]⟩ : ByteArray)⟩ : XCall)))]⟩ [0, 3])))
theorem bind_world_createF_tr (a1 : XObj) (b0 : List XObj) (hp0 : b0.length < 4611686018427387904) (hp1 : ∀ o ∈ b0, o.Fine) (hp2 : a1.Fine) : Tr Tryz.prog 1 (bodyOf Tryz.f25) (fnBegins Tryz.f25 [.agg [.vec 0], .agg (oc a1)] [.vec true ⟨.obj, b0⟩]) (fnEnds Tryz.prog Tryz.f25 (.agg (ac (bind_world_createF a1 b0))) [.vec true ⟨.obj, b0⟩]) := by
 refine Tr_tree (kok _ _ _ _ _ _) (E := E_bind_world_create) (L := noLoops) 60 9999 LoopsOk.none (bind_world_createR a1 b0) (by kernel_rfl) (by kernel_rfl) (by kernel_rfl) ?_
 unfold bind_world_createR
 refine ⟨need_cons (by (try refine fun (_ : _ = _) => ?_); first | assumption | exact get_fine _ _ _ (by first | assumption | exact of_fine _ (by first | assumption | exact w12_few_fine (by assumption)) | exact r12_Uniq_fine _ (by first | assumption | exact w12_few_fine (by assumption)) | exact w12_few_fine (by assumption)) | exact r12_Get_fine _ _ _ (by first | assumption | exact of_fine _ (by first | assumption | exact w12_few_fine (by assumption)) | exact r12_Uniq_fine _ (by first | assumption | exact w12_few_fine (by assumption)) | exact w12_few_fine (by assumption)) | exact fine_default | exact hp1 _ (gD_mem (by assumption)) | exact r12_Uniq_fine _ (by assumption) _ (gD_mem (by assumption)) | exact of_fine _ (by assumption) _ (gD_mem (by assumption)) | exact w12_few_fine (by assumption) _ (gD_mem (by assumption)) | exact hp1 | exact hp0 | (refine ⟨?_, ?_, ?_, ?_, ?_, ?_, ?_, ?_, ?_⟩ <;> first | assumption | decide | (simp only [size_mk]; decide))) (need_nil), ?_⟩
 refine ⟨fun h0 => ?_, fun h0 => ?_⟩
 · refine ⟨need_cons (by (try refine fun (_ : _ = _) => ?_); first | assumption | omega | exact of_short _ (by first | assumption | omega | exact Nat.le_trans (w12_few_len _) (by decide)) | exact r12_Uniq_short _ (by first | assumption | omega | exact Nat.le_trans (w12_few_len _) (by decide)) | exact Nat.lt_of_le_of_lt (w12_few_len _) (by decide) | decide | (simp only [List.length_append, List.length_cons, List.length_nil]; have := w12_few_len a0; omega)) (need_cons (by (try refine fun (_ : _ = _) => ?_); first | assumption | exact of_fine _ (by first | assumption | exact w12_few_fine (by assumption)) | exact r12_Uniq_fine _ (by first | assumption | exact w12_few_fine (by assumption)) | exact w12_few_fine (by assumption) | exact cons2_fine hp1 ⟨hp1.2.2.2.2.2.2.2.1, Int.le_refl 0, (by decide : (0 : Int) ≤ 18446744073709551615), Nat.zero_le _, Nat.zero_le _, Nat.zero_le _, ref_size _, Nat.zero_le _, Nat.zero_le _⟩ (w12_few_fine hp0) | (simp only [List.mem_cons, List.not_mem_nil, or_false, forall_eq_or_imp, forall_eq, XObj.Fine, size_mk]; decide)) (need_nil)), ?_⟩
   refine ⟨fun h1 => ?_, fun h1 => ?_⟩
   · have hF : bind_world_createF a1 b0 = (default : XAct) := by first | exact (cond_t h0 (cond_t h1 rfl)) | simp only [bind_world_createF, h0, h1, cond_true, cond_false]
     exact ⟨trivial, .inl (by first | (rw [hF]; kernel_rfl) | kernel_rfl), by first | (rw [hF]; kernel_rfl) | kernel_rfl⟩
   · refine ⟨need_cons (by have hf := get_fine (7 : Int) a1.source b0 hp1; have hz := hf.1; have hb := fmtU_size hf.2.2.1; simp only [size_mk, ByteArray.size_append, List.size_toArray, List.length_cons, List.length_nil]; omega) (need_cons (by have hf := get_fine (7 : Int) a1.source b0 hp1; have hz := hf.1; have hb := fmtU_size hf.2.2.1; simp only [size_mk, ByteArray.size_append, List.size_toArray, List.length_cons, List.length_nil]; omega) (need_cons (by have hf := get_fine (7 : Int) a1.source b0 hp1; exact ⟨hf.2.1, hf.2.2.1⟩) (need_cons (by have hf := get_fine (7 : Int) a1.source b0 hp1; have hz := hf.1; have hb := fmtU_size hf.2.2.1; simp only [size_mk, ByteArray.size_append, List.size_toArray, List.length_cons, List.length_nil]; omega) (need_nil)))), ?_⟩
     have hF : bind_world_createF a1 b0 = (bind_askF (⟨(1 : Int), bind_HandleF a1, a1.num, a1.size, a1.zone, (⟨#[]⟩ : ByteArray), (((⟨#[115, 110, 97, 112, 47]⟩ : ByteArray) ++ (((bind_world_getF (7 : Int) a1.source b0).1).name)) ++ (⟨#[35]⟩ : ByteArray)) ++ (fmtU (((bind_world_getF (7 : Int) a1.source b0).1).born))⟩ : XCall)) := by first | exact (cond_t h0 (cond_f h1 rfl)) | simp only [bind_world_createF, h0, h1, cond_true, cond_false]
     exact ⟨trivial, .inl (by first | (rw [hF]; kernel_rfl) | kernel_rfl), by first | (rw [hF]; kernel_rfl) | kernel_rfl⟩
 · have hF : bind_world_createF a1 b0 = (bind_askF (⟨(1 : Int), bind_HandleF a1, a1.num, a1.size, a1.zone, (⟨#[]⟩ : ByteArray), (⟨#[]⟩ : ByteArray)⟩ : XCall)) := by first | exact (cond_f h0 rfl) | simp only [bind_world_createF, h0, cond_true, cond_false]
   exact ⟨trivial, .inl (by first | (rw [hF]; kernel_rfl) | kernel_rfl), by first | (rw [hF]; kernel_rfl) | kernel_rfl⟩
noncomputable def bind_world_create_fact : Fact Tryz.prog := factOf 25 Tryz.f25 (by kernel_rfl) rfl (by kernel_rfl) [.agg [.vec 0], .st .obj] [.vec true .obj] true (fun t u => .agg (ac (bind_world_createF t.2.1 u.1))) (fun t u => HPL.enc _ u) (fun t u => [u.1.length < 4611686018427387904, ∀ o ∈ u.1, o.Fine, t.2.1.Fine])
 (fun _ _ _ => rfl) (fun t u => by kernel_rfl) (fun t u => by kernel_rfl) (fun t u h => bind_world_createF_tr t.2.1 u.1 (h _ List.mem_cons_self) (h _ (List.mem_cons_of_mem _ List.mem_cons_self)) (h _ (List.mem_cons_of_mem _ (List.mem_cons_of_mem _ List.mem_cons_self))))
noncomputable def E_bind_world_node : Env := envOf (P := Tryz.prog) [bind_world_get_fact] [] [] ckf
def bind_world_nodeF (a1 : XObj) (b0 : List XObj) : XObj × Bool :=
 cond (decide (a1.node = (⟨#[]⟩ : ByteArray)))
  ((default : XObj), false)
  (((bind_world_getF (2 : Int) a1.node b0).1), (bind_world_getF (2 : Int) a1.node b0).2)
def bind_world_nodeR (a1 : XObj) (b0 : List XObj) : RT :=
 (.ask (decide (a1.node = (⟨#[]⟩ : ByteArray)))
   (.leaf .ret ⟨slots 16 [(4, .ptr 1 0), (5, .bool false)], [.vec true ⟨.obj, b0⟩, .cells 32 [.int .u8 0, .str (⟨#[]⟩ : ByteArray), .int .u64 0, .int .u64 0, .bool false, .bool false, .str (⟨#[]⟩ : ByteArray), .int .i64 0, .int .i64 0, .int .u8 0, .bool false, .bool false, .str (⟨#[]⟩ : ByteArray), .str (⟨#[]⟩ : ByteArray), .str (⟨#[]⟩ : ByteArray), .str (⟨#[]⟩ : ByteArray), .str (⟨#[]⟩ : ByteArray), .int .u8 0, .int .u64 0, .int .u64 0]]⟩ [0, 3])
   (.need [b0.length < 4611686018427387904, ∀ o ∈ b0, o.Fine]
     (.leaf .ret ⟨slots 16 [(4, .ptr 1 0), (5, .bool ((bind_world_getF (2 : Int) a1.node b0).2))], [.vec true ⟨.obj, b0⟩, .cells 32 (oc ((bind_world_getF (2 : Int) a1.node b0).1))]⟩ [0, 3])))
theorem bind_world_nodeF_tr (a1 : XObj) (b0 : List XObj) (hp0 : b0.length < 4611686018427387904) (hp1 : ∀ o ∈ b0, o.Fine) : Tr Tryz.prog 1 (bodyOf Tryz.f44) (fnBegins Tryz.f44 [.agg [.vec 0], .agg (oc a1)] [.vec true ⟨.obj, b0⟩]) (fnEnds Tryz.prog Tryz.f44 (.tup [.agg (oc ((bind_world_nodeF a1 b0).1)), .bool ((bind_world_nodeF a1 b0).2)]) [.vec true ⟨.obj, b0⟩]) := by
 refine Tr_tree (kok _ _ _ _ _ _) (E := E_bind_world_node) (L := noLoops) 60 9999 LoopsOk.none (bind_world_nodeR a1 b0) (by kernel_rfl) (by kernel_rfl) (by kernel_rfl) ?_
 unfold bind_world_nodeR
 refine ⟨fun h0 => ?_, fun h0 => ?_⟩
 · have hF : bind_world_nodeF a1 b0 = ((default : XObj), false) := by first | exact (cond_t h0 rfl) | simp only [bind_world_nodeF, h0, cond_true, cond_false]
   exact ⟨trivial, .inl (by first | (rw [hF]; kernel_rfl) | kernel_rfl), by first | (rw [hF]; kernel_rfl) | kernel_rfl⟩
 · refine ⟨need_cons (by (try refine fun (_ : _ = _) => ?_); first | assumption | omega | exact of_short _ (by first | assumption | omega | exact Nat.le_trans (w12_few_len _) (by decide)) | exact r12_Uniq_short _ (by first | assumption | omega | exact Nat.le_trans (w12_few_len _) (by decide)) | exact Nat.lt_of_le_of_lt (w12_few_len _) (by decide) | decide | (simp only [List.length_append, List.length_cons, List.length_nil]; have := w12_few_len a0; omega)) (need_cons (by (try refine fun (_ : _ = _) => ?_); first | assumption | exact of_fine _ (by first | assumption | exact w12_few_fine (by assumption)) | exact r12_Uniq_fine _ (by first | assumption | exact w12_few_fine (by assumption)) | exact w12_few_fine (by assumption) | exact cons2_fine hp1 ⟨hp1.2.2.2.2.2.2.2.1, Int.le_refl 0, (by decide : (0 : Int) ≤ 18446744073709551615), Nat.zero_le _, Nat.zero_le _, Nat.zero_le _, ref_size _, Nat.zero_le _, Nat.zero_le _⟩ (w12_few_fine hp0) | (simp only [List.mem_cons, List.not_mem_nil, or_false, forall_eq_or_imp, forall_eq, XObj.Fine, size_mk]; decide)) (need_nil)), ?_⟩
   have hF : bind_world_nodeF a1 b0 = (((bind_world_getF (2 : Int) a1.node b0).1), (bind_world_getF (2 : Int) a1.node b0).2) := by first | exact (cond_f h0 rfl) | simp only [bind_world_nodeF, h0, cond_true, cond_false]
   exact ⟨trivial, .inl (by first | (rw [hF]; kernel_rfl) | kernel_rfl), by first | (rw [hF]; kernel_rfl) | kernel_rfl⟩
noncomputable def bind_world_node_fact : Fact Tryz.prog := factOf 44 Tryz.f44 (by kernel_rfl) rfl (by kernel_rfl) [.agg [.vec 0], .st .obj] [.vec true .obj] true (fun t u => .tup [.agg (oc ((bind_world_nodeF t.2.1 u.1).1)), .bool ((bind_world_nodeF t.2.1 u.1).2)]) (fun t u => HPL.enc _ u) (fun t u => [u.1.length < 4611686018427387904, ∀ o ∈ u.1, o.Fine])
 (fun _ _ _ => rfl) (fun t u => by kernel_rfl) (fun t u => by kernel_rfl) (fun t u h => bind_world_nodeF_tr t.2.1 u.1 (h _ List.mem_cons_self) (h _ (List.mem_cons_of_mem _ List.mem_cons_self)))
noncomputable def E_bind_world_some_5 : Env := envOf (P := Tryz.prog) [] [] [] ckf
def bind_world_some_5F (a1 : Int) (b0 : List XObj) (b1 : XObj) (b2 : Bool) (b3 : XObj) : Int :=
 a1
def bind_world_some_5R (a1 : Int) (b0 : List XObj) (b1 : XObj) (b2 : Bool) (b3 : XObj) : RT :=
 (.leaf .ret ⟨slots 8 [(6, .fn 41 [.ptr 4 0, .ptr 5 0, .ptr 6 0])], [.vec true ⟨.obj, b0⟩, .cells 32 (oc b1), .cells 4 [.bool b2], .cells 32 (oc b3), .cells 67 [.vec 0], .cells 27 [.int .u8 a1], .cells 73 [.fn 52 [.ptr 1 0, .ptr 2 0, .ptr 3 0]]]⟩ [])
theorem bind_world_some_5F_tr (a1 : Int) (b0 : List XObj) (b1 : XObj) (b2 : Bool) (b3 : XObj)  : Tr Tryz.prog 4 (bodyOf Tryz.f20) (fnBegins Tryz.f20 [.agg [.vec 0], .int .u8 a1, .fn 52 [.ptr 1 0, .ptr 2 0, .ptr 3 0]] [.vec true ⟨.obj, b0⟩, .cells 32 (oc b1), .cells 4 [.bool b2], .cells 32 (oc b3)]) (fnEnds Tryz.prog Tryz.f20 (.fn 41 [.ptr 4 0, .ptr 5 0, .ptr 6 0]) [.vec true ⟨.obj, b0⟩, .cells 32 (oc b1), .cells 4 [.bool b2], .cells 32 (oc b3), .cells 67 [.vec 0], .cells 27 [.int .u8 (bind_world_some_5F a1 b0 b1 b2 b3)], .cells 73 [.fn 52 [.ptr 1 0, .ptr 2 0, .ptr 3 0]]]) := by
 refine Tr_tree (kok _ _ _ _ _ _) (E := E_bind_world_some_5) (L := noLoops) 60 9999 LoopsOk.none (bind_world_some_5R a1 b0 b1 b2 b3) (by kernel_rfl) (by kernel_rfl) (by kernel_rfl) ?_
 unfold bind_world_some_5R
 exact ⟨trivial, .inl (by kernel_rfl), by kernel_rfl⟩
noncomputable def bind_world_some_5_fact0 : Fact Tryz.prog := factOf 20 Tryz.f20 (by kernel_rfl) rfl (by kernel_rfl) [.agg [.vec 0], .c (.int .u8), .fn 52 [.ptr 1 0, .ptr 2 0, .ptr 3 0]] [.vec true .obj, .st 32 .obj, .cells 4 [.bool], .st 32 .obj] false (fun t u => .fn 41 [.ptr 4 0, .ptr 5 0, .ptr 6 0]) (fun t u => [.vec true ⟨.obj, u.1⟩, .cells 32 (oc u.2.1), .cells 4 [.bool u.2.2.1.1], .cells 32 (oc u.2.2.2.1), .cells 67 [.vec 0], .cells 27 [.int .u8 (bind_world_some_5F t.2.1 u.1 u.2.1 u.2.2.1.1 u.2.2.2.1)], .cells 73 [.fn 52 [.ptr 1 0, .ptr 2 0, .ptr 3 0]]]) (fun t u => [])
 (nofun) (fun t u => by kernel_rfl) (fun t u => by kernel_rfl) (fun t u h => bind_world_some_5F_tr t.2.1 u.1 u.2.1 u.2.2.1.1 u.2.2.2.1 )
noncomputable def bind_world_some_5_fact : Fact Tryz.prog := factThin bind_world_some_5_fact0 [.agg [.vec 0], .c (.int .u8), .fn 52 [.ptr 1 0, .ptr 2 0, .ptr 3 0]] [.vec true .obj, .st 32 .obj, .cells 4 [.bool], .st 32 .obj] (fun t u => .fn 41 [.ptr 4 0, .ptr 5 0, .ptr 6 0]) (fun t u => [.vec true ⟨.obj, u.1⟩, .cells 32 (oc u.2.1), .cells 4 [.bool u.2.2.1.1], .cells 32 (oc u.2.2.2.1), .cells 67 [.vec 0], .cells 27 [.int .u8 (bind_world_some_5F t.2.1 u.1 u.2.1 u.2.2.1.1 u.2.2.2.1)], .cells 73 [.fn 52 [.ptr 1 0, .ptr 2 0, .ptr 3 0]]]) (fun t u => []) rfl [0, 1, 2, 3] (by
 intro t u k hk
 simp only [List.mem_cons, List.not_mem_nil, or_false] at hk
 rcases hk with rfl | rfl | rfl | rfl
 all_goals exact ⟨by decide, rfl⟩)
noncomputable def E_bind_Best_1 : Env := envOf (P := Tryz.prog) [] [] [] ckf
def bind_Best_1F (a0 : XObj) (b0 : XObj) (b1 : Bool) (b2 : XObj) : Bool :=
 cond (cond (cond (cond (cond (a0.phase == (4 : Int)) (!a0.deleting) false) (decide (a0.cls = b0.cls)) false) (a0.mode == b0.mode) false) (decide (a0.got ≥ b0.size)) false) (cond (!b1) true (decide (a0.zone = b2.zone))) false
def bind_Best_1R (a0 : XObj) (b0 : XObj) (b1 : Bool) (b2 : XObj) : RT :=
 (.leaf .ret ⟨slots 48 [(5, .bool (cond (cond (cond (cond (cond (a0.phase == (4 : Int)) (!a0.deleting) false) (decide (a0.cls = b0.cls)) false) (a0.mode == b0.mode) false) (decide (a0.got ≥ b0.size)) false) (cond (!b1) true (decide (a0.zone = b2.zone))) false))], [.cells 32 (oc b0), .cells 4 [.bool b1], .cells 32 (oc b2)]⟩ [])
theorem bind_Best_1F_tr (a0 : XObj) (b0 : XObj) (b1 : Bool) (b2 : XObj)  : Tr Tryz.prog 3 (bodyOf Tryz.f52) (fnBegins Tryz.f52 [.agg (oc a0), .ptr 0 0, .ptr 1 0, .ptr 2 0] [.cells 32 (oc b0), .cells 4 [.bool b1], .cells 32 (oc b2)]) (fnEnds Tryz.prog Tryz.f52 (.bool (bind_Best_1F a0 b0 b1 b2)) [.cells 32 (oc b0), .cells 4 [.bool b1], .cells 32 (oc b2)]) := by
 refine Tr_tree (kok _ _ _ _ _ _) (E := E_bind_Best_1) (L := noLoops) 60 9999 LoopsOk.none (bind_Best_1R a0 b0 b1 b2) (by kernel_rfl) (by kernel_rfl) (by kernel_rfl) ?_
 unfold bind_Best_1R
 exact ⟨trivial, .inl (by kernel_rfl), by kernel_rfl⟩
noncomputable def bind_Best_1_fact : Fact Tryz.prog := factOf 52 Tryz.f52 (by kernel_rfl) rfl (by kernel_rfl) [.st .obj, .c (.ptr 0 0), .c (.ptr 1 0), .c (.ptr 2 0)] [.st 32 .obj, .cells 4 [.bool], .st 32 .obj] true (fun t u => .bool (bind_Best_1F t.1 u.1 u.2.1.1 u.2.2.1)) (fun t u => HPL.enc _ u) (fun t u => [])
 (fun _ _ _ => rfl) (fun t u => by kernel_rfl) (fun t u => by kernel_rfl) (fun t u h => bind_Best_1F_tr t.1 u.1 u.2.1.1 u.2.2.1 )
noncomputable def E_bind_Best_r : Env := envOf (P := Tryz.prog) [] [] [] ckf
def bind_Best_rF (a1 : XObj) (b1 : XObj) (b2 : Bool) : XObj × Bool :=
 cond (cond (cond (!b2) true (decide (a1.got < b1.got))) true (cond (a1.got == b1.got) (strLess a1.name b1.name) false))
  (a1, true)
  (b1, b2)
def bind_Best_rQ (a1 : XObj) (b1 : XObj) (b2 : Bool) : RT :=
 (.leaf .normal ⟨slots 50 [(9, .ptr 1 0), (10, .ptr 2 0), (11, .ptr 3 0)], [.dead, .cells 32 (oc b1), .cells 4 [.bool b2], .cells 32 (oc a1)]⟩ [])
def bind_Best_rR (a1 : XObj) (b1 : XObj) (b2 : Bool) : RT :=
 (.ask (cond (cond (!b2) true (decide (a1.got < b1.got))) true (cond (a1.got == b1.got) (strLess a1.name b1.name) false))
   (.leaf .normal ⟨slots 50 [], [.dead, .cells 32 (oc a1), .cells 4 [.bool true]]⟩ [])
   (.leaf .normal ⟨slots 50 [], [.dead, .cells 32 (oc b1), .cells 4 [.bool b2]]⟩ []))
theorem bind_Best_r_tr (a1 : XObj) (b1 : XObj) (b2 : Bool)  : Tr Tryz.prog 3 (Globs.site 3).2.1 ⟨slots 50 [(9, .ptr 1 0), (10, .ptr 2 0), (23, .agg (oc a1))], .dead :: [.cells 32 (oc b1), .cells 4 [.bool b2]]⟩ (fun e s1 => e = .normal ∧ Tr Tryz.prog 3 (Globs.site 3).2.2 s1 (rdEnds (true) .normal [.cells 32 (oc ((bind_Best_rF a1 b1 b2).1)), .cells 4 [.bool ((bind_Best_rF a1 b1 b2).2)]] .normal [.cells 32 (oc ((bind_Best_rF a1 b1 b2).1)), .cells 4 [.bool ((bind_Best_rF a1 b1 b2).2)]])) := by
 refine Tr_tree (kok _ _ _ _ _ _) (E := E_bind_Best_r) (L := noLoops) 60 9999 LoopsOk.none (bind_Best_rQ a1 b1 b2) (by kernel_rfl) (by kernel_rfl) (by kernel_rfl) ?_
 unfold bind_Best_rQ
 refine ⟨rfl, ?_⟩
 refine Tr_tree (kok _ _ _ _ _ _) (E := E_bind_Best_r) (L := noLoops) 60 9999 LoopsOk.none (bind_Best_rR a1 b1 b2) (by kernel_rfl) (by kernel_rfl) (by kernel_rfl) ?_
 unfold bind_Best_rR
 refine ⟨fun h0 => ?_, fun h0 => ?_⟩
 · have hF : bind_Best_rF a1 b1 b2 = (a1, true) := by first | exact (cond_t h0 rfl) | simp only [bind_Best_rF, h0, cond_true, cond_false]
   exact .inl ⟨rfl, rfl, by first | (rw [hF]; kernel_rfl) | kernel_rfl⟩
 · have hF : bind_Best_rF a1 b1 b2 = (b1, b2) := by first | exact (cond_f h0 rfl) | simp only [bind_Best_rF, h0, cond_true, cond_false]
   exact .inl ⟨rfl, rfl, by first | (rw [hF]; kernel_rfl) | kernel_rfl⟩
noncomputable def bind_Best_r_fact : FactY Tryz.prog := factY 3 [.st .obj] (cpsOf 50 [(9, .ptr 1 0), (10, .ptr 2 0)]) [.st 32 .obj, .cells 4 [.bool]] (fun t u => true) .normal .normal none none (fun t u => [.cells 32 (oc ((bind_Best_rF t.2.1 u.2.1 u.2.2.1.1).1)), .cells 4 [.bool ((bind_Best_rF t.2.1 u.2.1 u.2.2.1.1).2)]]) (fun t u => [.cells 32 (oc ((bind_Best_rF t.2.1 u.2.1 u.2.2.1.1).1)), .cells 4 [.bool ((bind_Best_rF t.2.1 u.2.1 u.2.2.1.1).2)]]) (fun t u => []) rfl rfl
 (fun t u => by kernel_rfl) (fun t => by kernel_rfl) (fun t u => by kernel_rfl) (fun t u => by kernel_rfl) (fun t u => by kernel_rfl) (fun t u => slots 50 [(9, .ptr 1 0), (10, .ptr 2 0), (23, .agg (oc t.2.1))]) (fun t u => by kernel_rfl) (fun t u h => bind_Best_r_tr t.2.1 u.2.1 u.2.2.1.1 )
noncomputable def E_bind_Best_it : Env := envOf (P := Tryz.prog) [bind_Best_1_fact] [] [] ckf false [bind_Best_r_fact]
def bind_Best_itLF (a0 : List XObj) (a1 : XObj) : List XObj → XObj → Bool → XObj × Bool
 | [], v3, v4 => (v3, v4)
 | o :: r, v3, v4 => cond (cond ((o.kind) == (bind_world_some_5F (4 : Int) (bind_ofF a0) a1 ((bind_world_nodeF a1 (bind_ofF a0)).2) ((bind_world_nodeF a1 (bind_ofF a0)).1))) (bind_Best_1F o a1 ((bind_world_nodeF a1 (bind_ofF a0)).2) ((bind_world_nodeF a1 (bind_ofF a0)).1)) false)
  (bind_Best_itLF a0 a1 r ((bind_Best_rF o v3 v4).1) ((bind_Best_rF o v3 v4).2))
  (bind_Best_itLF a0 a1 r v3 v4)
def bind_Best_itLS (a0 : List XObj) (a1 : XObj) (i : Nat) (v3 : XObj) (v4 : Bool) : St :=
 ⟨slots 30 [(0, .yld 10), (2, .ptr 4 0), (3, .ptr 5 0), (8, .vec 6), (9, .int .i64 ((bind_ofF a0).length : Int)), (10, .int .i64 (i : Int))], [.cells 32 [.int .u8 0, .str (⟨#[]⟩ : ByteArray), .int .u64 0, .int .u64 0, .bool false, .bool false, .str (⟨#[]⟩ : ByteArray), .int .i64 0, .int .i64 0, .int .u8 0, .bool false, .bool false, .str (⟨#[]⟩ : ByteArray), .str (⟨#[]⟩ : ByteArray), .str (⟨#[]⟩ : ByteArray), .str (⟨#[]⟩ : ByteArray), .str (⟨#[]⟩ : ByteArray), .int .u8 0, .int .u64 0, .int .u64 0], .cells 32 (oc v3), .cells 4 [.bool v4], .cells 67 [.vec 6], .cells 27 [.int .u8 (bind_world_some_5F (4 : Int) (bind_ofF a0) a1 ((bind_world_nodeF a1 (bind_ofF a0)).2) ((bind_world_nodeF a1 (bind_ofF a0)).1))], .cells 73 [.fn 52 [.ptr 7 0, .ptr 8 0, .ptr 9 0]], .vec true ⟨.obj, bind_ofF a0⟩, .cells 32 (oc a1), .cells 4 [.bool ((bind_world_nodeF a1 (bind_ofF a0)).2)], .cells 32 (oc ((bind_world_nodeF a1 (bind_ofF a0)).1)), .loop 3 (slots 50 [(9, .ptr 1 0), (10, .ptr 2 0)]) none]⟩
def bind_Best_itLR (a0 : List XObj) (a1 : XObj) (i : Nat) (v3 : XObj) (v4 : Bool) : RT :=
 (.ask (decide ((i : Int) < ((bind_ofF a0).length : Int)))
   (.need [0 ≤ (i : Int) ∧ (i : Int) < ((bind_ofF a0).length : Int)]
     (.ask (cond ((((bind_ofF a0).getD i default).kind) == (bind_world_some_5F (4 : Int) (bind_ofF a0) a1 ((bind_world_nodeF a1 (bind_ofF a0)).2) ((bind_world_nodeF a1 (bind_ofF a0)).1))) (bind_Best_1F ((bind_ofF a0).getD i default) a1 ((bind_world_nodeF a1 (bind_ofF a0)).2) ((bind_world_nodeF a1 (bind_ofF a0)).1)) false)
       (.ask true
         (.ask false
           .fail
           (.leaf .normal ⟨slots 30 [(0, .yld 10), (2, .ptr 4 0), (3, .ptr 5 0), (8, .vec 6), (9, .int .i64 ((bind_ofF a0).length : Int)), (10, .int .i64 (IntKind.i64.wrap ((i : Int) + (1 : Int))))], [.cells 32 [.int .u8 0, .str (⟨#[]⟩ : ByteArray), .int .u64 0, .int .u64 0, .bool false, .bool false, .str (⟨#[]⟩ : ByteArray), .int .i64 0, .int .i64 0, .int .u8 0, .bool false, .bool false, .str (⟨#[]⟩ : ByteArray), .str (⟨#[]⟩ : ByteArray), .str (⟨#[]⟩ : ByteArray), .str (⟨#[]⟩ : ByteArray), .str (⟨#[]⟩ : ByteArray), .int .u8 0, .int .u64 0, .int .u64 0], .cells 32 (oc ((bind_Best_rF ((bind_ofF a0).getD i default) v3 v4).1)), .cells 4 [.bool ((bind_Best_rF ((bind_ofF a0).getD i default) v3 v4).2)], .cells 67 [.vec 6], .cells 27 [.int .u8 (bind_world_some_5F (4 : Int) (bind_ofF a0) a1 ((bind_world_nodeF a1 (bind_ofF a0)).2) ((bind_world_nodeF a1 (bind_ofF a0)).1))], .cells 73 [.fn 52 [.ptr 7 0, .ptr 8 0, .ptr 9 0]], .vec true ⟨.obj, bind_ofF a0⟩, .cells 32 (oc a1), .cells 4 [.bool ((bind_world_nodeF a1 (bind_ofF a0)).2)], .cells 32 (oc ((bind_world_nodeF a1 (bind_ofF a0)).1)), .loop 3 (slots 50 [(9, .ptr 1 0), (10, .ptr 2 0)]) none]⟩ []))
         .fail)
       (.ask false
         .fail
         (.leaf .normal ⟨slots 30 [(0, .yld 10), (2, .ptr 4 0), (3, .ptr 5 0), (8, .vec 6), (9, .int .i64 ((bind_ofF a0).length : Int)), (10, .int .i64 (IntKind.i64.wrap ((i : Int) + (1 : Int))))], [.cells 32 [.int .u8 0, .str (⟨#[]⟩ : ByteArray), .int .u64 0, .int .u64 0, .bool false, .bool false, .str (⟨#[]⟩ : ByteArray), .int .i64 0, .int .i64 0, .int .u8 0, .bool false, .bool false, .str (⟨#[]⟩ : ByteArray), .str (⟨#[]⟩ : ByteArray), .str (⟨#[]⟩ : ByteArray), .str (⟨#[]⟩ : ByteArray), .str (⟨#[]⟩ : ByteArray), .int .u8 0, .int .u64 0, .int .u64 0], .cells 32 (oc v3), .cells 4 [.bool v4], .cells 67 [.vec 6], .cells 27 [.int .u8 (bind_world_some_5F (4 : Int) (bind_ofF a0) a1 ((bind_world_nodeF a1 (bind_ofF a0)).2) ((bind_world_nodeF a1 (bind_ofF a0)).1))], .cells 73 [.fn 52 [.ptr 7 0, .ptr 8 0, .ptr 9 0]], .vec true ⟨.obj, bind_ofF a0⟩, .cells 32 (oc a1), .cells 4 [.bool ((bind_world_nodeF a1 (bind_ofF a0)).2)], .cells 32 (oc ((bind_world_nodeF a1 (bind_ofF a0)).1)), .loop 3 (slots 50 [(9, .ptr 1 0), (10, .ptr 2 0)]) none]⟩ []))))
   (.leaf (.exit 0) ⟨slots 30 [], [.cells 32 [.int .u8 0, .str (⟨#[]⟩ : ByteArray), .int .u64 0, .int .u64 0, .bool false, .bool false, .str (⟨#[]⟩ : ByteArray), .int .i64 0, .int .i64 0, .int .u8 0, .bool false, .bool false, .str (⟨#[]⟩ : ByteArray), .str (⟨#[]⟩ : ByteArray), .str (⟨#[]⟩ : ByteArray), .str (⟨#[]⟩ : ByteArray), .str (⟨#[]⟩ : ByteArray), .int .u8 0, .int .u64 0, .int .u64 0], .cells 32 (oc v3), .cells 4 [.bool v4], .cells 67 [.vec 6], .cells 27 [.int .u8 (bind_world_some_5F (4 : Int) (bind_ofF a0) a1 ((bind_world_nodeF a1 (bind_ofF a0)).2) ((bind_world_nodeF a1 (bind_ofF a0)).1))], .cells 73 [.fn 52 [.ptr 7 0, .ptr 8 0, .ptr 9 0]], .vec true ⟨.obj, bind_ofF a0⟩, .cells 32 (oc a1), .cells 4 [.bool ((bind_world_nodeF a1 (bind_ofF a0)).2)], .cells 32 (oc ((bind_world_nodeF a1 (bind_ofF a0)).1)), .loop 3 (slots 50 [(9, .ptr 1 0), (10, .ptr 2 0)]) none]⟩ []))
def bind_Best_itLT (a0 : List XObj) (a1 : XObj) (i : Nat) (v3 : XObj) (v4 : Bool) : Tree :=
 .leaf (.exit 0) ⟨slots 30 [], [.cells 32 [.int .u8 0, .str (⟨#[]⟩ : ByteArray), .int .u64 0, .int .u64 0, .bool false, .bool false, .str (⟨#[]⟩ : ByteArray), .int .i64 0, .int .i64 0, .int .u8 0, .bool false, .bool false, .str (⟨#[]⟩ : ByteArray), .str (⟨#[]⟩ : ByteArray), .str (⟨#[]⟩ : ByteArray), .str (⟨#[]⟩ : ByteArray), .str (⟨#[]⟩ : ByteArray), .int .u8 0, .int .u64 0, .int .u64 0], .cells 32 (oc ((bind_Best_itLF a0 a1 ((bind_ofF a0).drop i) v3 v4).1)), .cells 4 [.bool ((bind_Best_itLF a0 a1 ((bind_ofF a0).drop i) v3 v4).2)], .cells 67 [.vec 6], .cells 27 [.int .u8 (bind_world_some_5F (4 : Int) (bind_ofF a0) a1 ((bind_world_nodeF a1 (bind_ofF a0)).2) ((bind_world_nodeF a1 (bind_ofF a0)).1))], .cells 73 [.fn 52 [.ptr 7 0, .ptr 8 0, .ptr 9 0]], .vec true ⟨.obj, bind_ofF a0⟩, .cells 32 (oc a1), .cells 4 [.bool ((bind_world_nodeF a1 (bind_ofF a0)).2)], .cells 32 (oc ((bind_world_nodeF a1 (bind_ofF a0)).1)), .loop 3 (slots 50 [(9, .ptr 1 0), (10, .ptr 2 0)]) none]⟩
theorem bind_Best_itL_loop (a0 : List XObj) (a1 : XObj) (hp0 : a0.length ≤ 64) (hp1 : ∀ o ∈ a0, o.Fine) (hlen : (bind_ofF a0).length < 4611686018427387904) (z : { z : Nat × XObj × Bool // z.1 ≤ (bind_ofF a0).length }) (Q : Exit → St → Prop) (h : (bind_Best_itLT a0 a1 z.1.1 z.1.2.1 z.1.2.2).All Q) : Tr Tryz.prog 11 (.loop (loopAt Tryz.f41 0)) (bind_Best_itLS a0 a1 z.1.1 z.1.2.1 z.1.2.2) Q := by
 refine Tr_loopT (kok _ _ _ _ _ _) (E := E_bind_Best_it) (ι := { z : Nat × XObj × Bool // z.1 ≤ (bind_ofF a0).length }) 60 0 (fun _ => noLoops) (fun z => bind_Best_itLS a0 a1 z.1.1 z.1.2.1 z.1.2.2) (fun z => bind_Best_itLT a0 a1 z.1.1 z.1.2.1 z.1.2.2) (fun z => bind_Best_itLR a0 a1 z.1.1 z.1.2.1 z.1.2.2) (fun z => (bind_ofF a0).length - z.1.1) (fun _ => LoopsOk.none) (fun z => by obtain ⟨⟨i, v3, v4⟩, hi⟩ := z; kernel_rfl) (fun z => by obtain ⟨⟨i, v3, v4⟩, hi⟩ := z; kernel_rfl) (fun z => by obtain ⟨⟨i, v3, v4⟩, hi⟩ := z; kernel_rfl) ?_ z Q h
 rintro ⟨⟨i, v3, v4⟩, hi⟩ Q hT
 replace hT : (bind_Best_itLT a0 a1 i v3 v4).All Q := hT
 replace hi : i ≤ (bind_ofF a0).length := hi
 show (bind_Best_itLR a0 a1 i v3 v4).All _
 unfold bind_Best_itLR
 refine ⟨fun h0 => ?_, fun h0 => ?_⟩
 · have hlt : i < (bind_ofF a0).length := by simpa using h0
   have hd := drop_getD hlt
   have hw := wrap_succ (i := i) (by omega)
   refine ⟨need_cons (by first | assumption | omega | (intro; omega) | (simp only [decide_eq_true_eq, decide_eq_false_iff_not, Bool.cond_false_right, Bool.cond_true_right, Bool.cond_true_left, Bool.cond_false_left, Bool.and_eq_true, Bool.or_eq_true, Bool.not_eq_true', bytesLim, maxLen, List.length_cons, List.length_nil, List.length_append, byteSize_lit] at *; omega) | (intro; simp only [decide_eq_true_eq, decide_eq_false_iff_not, Bool.cond_false_right, Bool.cond_true_right, Bool.cond_true_left, Bool.cond_false_left, Bool.and_eq_true, Bool.or_eq_true, Bool.not_eq_true', bytesLim, maxLen, List.length_cons, List.length_nil, List.length_append, byteSize_lit] at *; omega)) (need_nil), ?_⟩
   refine ⟨fun h1 => ?_, fun h1 => ?_⟩
   · refine ⟨fun h2 => ?_, fun h2 => ?_⟩
     · refine ⟨fun h3 => ?_, fun h3 => ?_⟩
       · exact absurd h3 (by simp)
       · have hF : bind_Best_itLF a0 a1 ((bind_ofF a0).drop i) v3 v4 = bind_Best_itLF a0 a1 ((bind_ofF a0).drop (i + 1)) ((bind_Best_rF ((bind_ofF a0).getD i default) v3 v4).1) ((bind_Best_rF ((bind_ofF a0).getD i default) v3 v4).2) := by rw [hd]; first | exact (cond_t h1 (cond_t h2 (cond_f h3 rfl))) | simp only [bind_Best_itLF, h0, h1, h2, h3, cond_true, cond_false]
         refine ⟨⟨((i + 1), ((bind_Best_rF ((bind_ofF a0).getD i default) v3 v4).1), (bind_Best_rF ((bind_ofF a0).getD i default) v3 v4).2), by show (i + 1) ≤ (bind_ofF a0).length; omega⟩, by show (bind_ofF a0).length - (i + 1) < (bind_ofF a0).length - i; omega, ?_, ?_⟩
         · show _ = bind_Best_itLS a0 a1 (i + 1) ((bind_Best_rF ((bind_ofF a0).getD i default) v3 v4).1) ((bind_Best_rF ((bind_ofF a0).getD i default) v3 v4).2)
           unfold bind_Best_itLS
           simp only [hw]
         · show (bind_Best_itLT a0 a1 (i + 1) ((bind_Best_rF ((bind_ofF a0).getD i default) v3 v4).1) ((bind_Best_rF ((bind_ofF a0).getD i default) v3 v4).2)).All Q
           unfold bind_Best_itLT at hT ⊢
           rw [hF] at hT
           exact hT
     · exact absurd h2 (by simp)
   · refine ⟨fun h2 => ?_, fun h2 => ?_⟩
     · exact absurd h2 (by simp)
     · have hF : bind_Best_itLF a0 a1 ((bind_ofF a0).drop i) v3 v4 = bind_Best_itLF a0 a1 ((bind_ofF a0).drop (i + 1)) v3 v4 := by rw [hd]; first | exact (cond_f h1 (cond_f h2 rfl)) | simp only [bind_Best_itLF, h0, h1, h2, cond_true, cond_false]
       refine ⟨⟨((i + 1), v3, v4), by show (i + 1) ≤ (bind_ofF a0).length; omega⟩, by show (bind_ofF a0).length - (i + 1) < (bind_ofF a0).length - i; omega, ?_, ?_⟩
       · show _ = bind_Best_itLS a0 a1 (i + 1) v3 v4
         unfold bind_Best_itLS
         simp only [hw]
       · show (bind_Best_itLT a0 a1 (i + 1) v3 v4).All Q
         unfold bind_Best_itLT at hT ⊢
         rw [hF] at hT
         exact hT
 · have hge : ¬ i < (bind_ofF a0).length := by simpa using h0
   have hd : (bind_ofF a0).drop i = [] := List.drop_eq_nil_of_le (by omega)
   have hF : bind_Best_itLF a0 a1 ((bind_ofF a0).drop i) v3 v4 = (v3, v4) := by rw [hd]; first | exact rfl | simp only [bind_Best_itLF, h0, cond_true, cond_false]
   unfold bind_Best_itLT at hT
   rw [hF] at hT
   exact hT
def bind_Best_itS (a0 : List XObj) (a1 : XObj) : St :=
 ⟨slots 50 [(4, .ptr 0 0), (9, .ptr 1 0), (10, .ptr 2 0), (22, .fn 41 [.ptr 3 0, .ptr 4 0, .ptr 5 0])], [.cells 32 [.int .u8 0, .str (⟨#[]⟩ : ByteArray), .int .u64 0, .int .u64 0, .bool false, .bool false, .str (⟨#[]⟩ : ByteArray), .int .i64 0, .int .i64 0, .int .u8 0, .bool false, .bool false, .str (⟨#[]⟩ : ByteArray), .str (⟨#[]⟩ : ByteArray), .str (⟨#[]⟩ : ByteArray), .str (⟨#[]⟩ : ByteArray), .str (⟨#[]⟩ : ByteArray), .int .u8 0, .int .u64 0, .int .u64 0], .cells 32 [.int .u8 0, .str (⟨#[]⟩ : ByteArray), .int .u64 0, .int .u64 0, .bool false, .bool false, .str (⟨#[]⟩ : ByteArray), .int .i64 0, .int .i64 0, .int .u8 0, .bool false, .bool false, .str (⟨#[]⟩ : ByteArray), .str (⟨#[]⟩ : ByteArray), .str (⟨#[]⟩ : ByteArray), .str (⟨#[]⟩ : ByteArray), .str (⟨#[]⟩ : ByteArray), .int .u8 0, .int .u64 0, .int .u64 0], .cells 4 [.bool false], .cells 67 [.vec 6], .cells 27 [.int .u8 (bind_world_some_5F (4 : Int) (bind_ofF a0) a1 ((bind_world_nodeF a1 (bind_ofF a0)).2) ((bind_world_nodeF a1 (bind_ofF a0)).1))], .cells 73 [.fn 52 [.ptr 7 0, .ptr 8 0, .ptr 9 0]], .vec true ⟨.obj, bind_ofF a0⟩, .cells 32 (oc a1), .cells 4 [.bool ((bind_world_nodeF a1 (bind_ofF a0)).2)], .cells 32 (oc ((bind_world_nodeF a1 (bind_ofF a0)).1))]⟩
def bind_Best_itR (a0 : List XObj) (a1 : XObj) : RT :=
 (.leaf .normal ⟨slots 30 [], [.cells 32 [.int .u8 0, .str (⟨#[]⟩ : ByteArray), .int .u64 0, .int .u64 0, .bool false, .bool false, .str (⟨#[]⟩ : ByteArray), .int .i64 0, .int .i64 0, .int .u8 0, .bool false, .bool false, .str (⟨#[]⟩ : ByteArray), .str (⟨#[]⟩ : ByteArray), .str (⟨#[]⟩ : ByteArray), .str (⟨#[]⟩ : ByteArray), .str (⟨#[]⟩ : ByteArray), .int .u8 0, .int .u64 0, .int .u64 0], .cells 32 (oc ((bind_Best_itLF a0 a1 (bind_ofF a0) (default : XObj) false).1)), .cells 4 [.bool ((bind_Best_itLF a0 a1 (bind_ofF a0) (default : XObj) false).2)], .cells 67 [.vec 6], .cells 27 [.int .u8 (bind_world_some_5F (4 : Int) (bind_ofF a0) a1 ((bind_world_nodeF a1 (bind_ofF a0)).2) ((bind_world_nodeF a1 (bind_ofF a0)).1))], .cells 73 [.fn 52 [.ptr 7 0, .ptr 8 0, .ptr 9 0]], .vec true ⟨.obj, bind_ofF a0⟩, .cells 32 (oc a1), .cells 4 [.bool ((bind_world_nodeF a1 (bind_ofF a0)).2)], .cells 32 (oc ((bind_world_nodeF a1 (bind_ofF a0)).1)), .loop 3 (slots 50 [(9, .ptr 1 0), (10, .ptr 2 0)]) none]⟩ [])
def bind_Best_itT (a0 : List XObj) (a1 : XObj) : Tree :=
 .leaf .normal ⟨slots 50 [(4, .ptr 0 0), (9, .ptr 1 0), (10, .ptr 2 0), (22, .fn 41 [.ptr 3 0, .ptr 4 0, .ptr 5 0])], [.cells 32 [.int .u8 0, .str (⟨#[]⟩ : ByteArray), .int .u64 0, .int .u64 0, .bool false, .bool false, .str (⟨#[]⟩ : ByteArray), .int .i64 0, .int .i64 0, .int .u8 0, .bool false, .bool false, .str (⟨#[]⟩ : ByteArray), .str (⟨#[]⟩ : ByteArray), .str (⟨#[]⟩ : ByteArray), .str (⟨#[]⟩ : ByteArray), .str (⟨#[]⟩ : ByteArray), .int .u8 0, .int .u64 0, .int .u64 0], .cells 32 (oc ((bind_Best_itLF a0 a1 (bind_ofF a0) (default : XObj) false).1)), .cells 4 [.bool ((bind_Best_itLF a0 a1 (bind_ofF a0) (default : XObj) false).2)], .cells 67 [.vec 6], .cells 27 [.int .u8 (bind_world_some_5F (4 : Int) (bind_ofF a0) a1 ((bind_world_nodeF a1 (bind_ofF a0)).2) ((bind_world_nodeF a1 (bind_ofF a0)).1))], .cells 73 [.fn 52 [.ptr 7 0, .ptr 8 0, .ptr 9 0]], .vec true ⟨.obj, bind_ofF a0⟩, .cells 32 (oc a1), .cells 4 [.bool ((bind_world_nodeF a1 (bind_ofF a0)).2)], .cells 32 (oc ((bind_world_nodeF a1 (bind_ofF a0)).1)), .dead]⟩
theorem bind_Best_it_rg (a0 : List XObj) (a1 : XObj) (hp0 : a0.length ≤ 64) (hp1 : ∀ o ∈ a0, o.Fine) (Q : Exit → St → Prop) (hT : (bind_Best_itT a0 a1).All Q) : Tr Tryz.prog 0 (loopAt Tryz.f43 0) (bind_Best_itS a0 a1) Q := by
 have hc : loopAt Tryz.f43 0 = .rangeFunc (.tmp 22) (Globs.site 3).1 (Globs.site 3).2.1 (Globs.site 3).2.2 := by kernel_rfl
 rw [hc]
 refine Tr_range (site := 3) (gf := 41) (fn := Tryz.f41) (c := bodyOf Tryz.f41) (cap := [.ptr 3 0, .ptr 4 0, .ptr 5 0]) 10 [9, 10] (slots 50 [(9, .ptr 1 0), (10, .ptr 2 0)]) [.yld 10, .ptr 3 0, .ptr 4 0, .ptr 5 0] [.cells 32 [.int .u8 0, .str (⟨#[]⟩ : ByteArray), .int .u64 0, .int .u64 0, .bool false, .bool false, .str (⟨#[]⟩ : ByteArray), .int .i64 0, .int .i64 0, .int .u8 0, .bool false, .bool false, .str (⟨#[]⟩ : ByteArray), .str (⟨#[]⟩ : ByteArray), .str (⟨#[]⟩ : ByteArray), .str (⟨#[]⟩ : ByteArray), .str (⟨#[]⟩ : ByteArray), .int .u8 0, .int .u64 0, .int .u64 0], .cells 32 [.int .u8 0, .str (⟨#[]⟩ : ByteArray), .int .u64 0, .int .u64 0, .bool false, .bool false, .str (⟨#[]⟩ : ByteArray), .int .i64 0, .int .i64 0, .int .u8 0, .bool false, .bool false, .str (⟨#[]⟩ : ByteArray), .str (⟨#[]⟩ : ByteArray), .str (⟨#[]⟩ : ByteArray), .str (⟨#[]⟩ : ByteArray), .str (⟨#[]⟩ : ByteArray), .int .u8 0, .int .u64 0, .int .u64 0], .cells 4 [.bool false], .cells 67 [.vec 6], .cells 27 [.int .u8 (bind_world_some_5F (4 : Int) (bind_ofF a0) a1 ((bind_world_nodeF a1 (bind_ofF a0)).2) ((bind_world_nodeF a1 (bind_ofF a0)).1))], .cells 73 [.fn 52 [.ptr 7 0, .ptr 8 0, .ptr 9 0]], .vec true ⟨.obj, bind_ofF a0⟩, .cells 32 (oc a1), .cells 4 [.bool ((bind_world_nodeF a1 (bind_ofF a0)).2)], .cells 32 (oc ((bind_world_nodeF a1 (bind_ofF a0)).1)), .loop 3 (slots 50 [(9, .ptr 1 0), (10, .ptr 2 0)]) none] rfl (by kernel_rfl) (by kernel_rfl) rfl (by kernel_rfl) (by kernel_rfl) (by kernel_rfl) (by kernel_rfl) (by kernel_rfl) (by kernel_rfl) (by kernel_rfl) (by kernel_rfl) ?_
 refine Tr_tree (kok _ _ _ _ _ _) (E := E_bind_Best_it) (L := (loopsOf [(0, bind_Best_itLS a0 a1 0 (default : XObj) false, [], bind_Best_itLT a0 a1 0 (default : XObj) false)])) 60 9999 (LoopsOk.one (g := loopAt Tryz.f41 0) (b := 0) (by kernel_rfl) (by kernel_rfl) (by kernel_rfl) (by kernel_rfl) (fun Q h => bind_Best_itL_loop a0 a1 hp0 hp1 (by first | assumption | omega | exact of_short _ (by first | assumption | omega | exact Nat.le_trans (w12_few_len _) (by decide)) | exact r12_Uniq_short _ (by first | assumption | omega | exact Nat.le_trans (w12_few_len _) (by decide)) | exact Nat.lt_of_le_of_lt (w12_few_len _) (by decide) | decide | (simp only [List.length_append, List.length_cons, List.length_nil]; have := w12_few_len a0; omega)) ⟨(0, (default : XObj), false), by first | exact Nat.zero_le _ | (show 0 ≤ (bind_ofF a0).length; omega) | (show 0 ≤ (bind_ofF a0).length; exact ⟨Nat.zero_le _, by assumption⟩) | (show 0 ≤ (bind_ofF a0).length; simp)⟩ Q h)) (bind_Best_itR a0 a1) (by kernel_rfl) (by kernel_rfl) (by kernel_rfl) ?_
 unfold bind_Best_itR
 unfold bind_Best_itT at hT
 exact ⟨⟨trivial, .tup [], by kernel_rfl⟩, none, [.cells 32 [.int .u8 0, .str (⟨#[]⟩ : ByteArray), .int .u64 0, .int .u64 0, .bool false, .bool false, .str (⟨#[]⟩ : ByteArray), .int .i64 0, .int .i64 0, .int .u8 0, .bool false, .bool false, .str (⟨#[]⟩ : ByteArray), .str (⟨#[]⟩ : ByteArray), .str (⟨#[]⟩ : ByteArray), .str (⟨#[]⟩ : ByteArray), .str (⟨#[]⟩ : ByteArray), .int .u8 0, .int .u64 0, .int .u64 0], .cells 32 (oc ((bind_Best_itLF a0 a1 (bind_ofF a0) (default : XObj) false).1)), .cells 4 [.bool ((bind_Best_itLF a0 a1 (bind_ofF a0) (default : XObj) false).2)], .cells 67 [.vec 6], .cells 27 [.int .u8 (bind_world_some_5F (4 : Int) (bind_ofF a0) a1 ((bind_world_nodeF a1 (bind_ofF a0)).2) ((bind_world_nodeF a1 (bind_ofF a0)).1))], .cells 73 [.fn 52 [.ptr 7 0, .ptr 8 0, .ptr 9 0]], .vec true ⟨.obj, bind_ofF a0⟩, .cells 32 (oc a1), .cells 4 [.bool ((bind_world_nodeF a1 (bind_ofF a0)).2)], .cells 32 (oc ((bind_world_nodeF a1 (bind_ofF a0)).1)), .dead], by kernel_rfl, rfl, by kernel_rfl, by kernel_rfl, by kernel_rfl, by kernel_rfl, hT⟩
noncomputable def E_bind_Best : Env := envOf (P := Tryz.prog) [bind_of_fact, bind_world_node_fact, bind_world_some_5_fact] [] [] ckf
def bind_BestF (a0 : List XObj) (a1 : XObj) : XObj × Bool :=
 (((bind_Best_itLF a0 a1 (bind_ofF a0) (default : XObj) false).1), (bind_Best_itLF a0 a1 (bind_ofF a0) (default : XObj) false).2)
def bind_BestR (a0 : List XObj) (a1 : XObj) : RT :=
 (.need [a0.length ≤ 64]
   (.need [(bind_ofF a0).length < 4611686018427387904, ∀ o ∈ (bind_ofF a0), o.Fine]
     (.leaf .ret ⟨slots 50 [(4, .ptr 0 0), (5, .bool ((bind_Best_itLF a0 a1 (bind_ofF a0) (default : XObj) false).2))], [.cells 32 (oc ((bind_Best_itLF a0 a1 (bind_ofF a0) (default : XObj) false).1))]⟩ [])))
theorem bind_BestF_tr (a0 : List XObj) (a1 : XObj) (hp0 : a0.length ≤ 64) (hp1 : ∀ o ∈ a0, o.Fine) : Tr Tryz.prog 0 (bodyOf Tryz.f43) (fnBegins Tryz.f43 [.coll ⟨.obj, a0⟩, .agg (oc a1)] []) (fnEnds Tryz.prog Tryz.f43 (.tup [.agg (oc ((bind_BestF a0 a1).1)), .bool ((bind_BestF a0 a1).2)]) []) := by
 refine Tr_tree (kok _ _ _ _ _ _) (E := E_bind_Best) (L := (loopsOf [(0, bind_Best_itS a0 a1, [1, 7, 8, 9, 10, 11, 2, 0, 6, 5], bind_Best_itT a0 a1)])) 60 9999 (LoopsOk.oneR (g := loopAt Tryz.f43 0) (b := 0) (by kernel_rfl) (by kernel_rfl) (by kernel_rfl) (by kernel_rfl) (fun Q h => bind_Best_it_rg a0 a1 hp0 hp1 Q h)) (bind_BestR a0 a1) (by kernel_rfl) (by kernel_rfl) (by kernel_rfl) ?_
 unfold bind_BestR
 refine ⟨need_cons (by (try refine fun (_ : _ = _) => ?_); first | assumption | omega | exact of_len _ (by first | assumption | omega | exact Nat.le_trans (w12_few_len _) (by decide)) | exact r12_Uniq_len _ (by first | assumption | omega | exact Nat.le_trans (w12_few_len _) (by decide)) | exact Nat.le_trans (w12_few_len _) (by decide) | decide | (simp only [List.length_append, List.length_cons, List.length_nil]; have := w12_few_len a0; omega)) (need_nil), ?_⟩
 refine ⟨need_cons (by (try refine fun (_ : _ = _) => ?_); first | assumption | omega | exact of_short _ (by first | assumption | omega | exact Nat.le_trans (w12_few_len _) (by decide)) | exact r12_Uniq_short _ (by first | assumption | omega | exact Nat.le_trans (w12_few_len _) (by decide)) | exact Nat.lt_of_le_of_lt (w12_few_len _) (by decide) | decide | (simp only [List.length_append, List.length_cons, List.length_nil]; have := w12_few_len a0; omega)) (need_cons (by (try refine fun (_ : _ = _) => ?_); first | assumption | exact of_fine _ (by first | assumption | exact w12_few_fine (by assumption)) | exact r12_Uniq_fine _ (by first | assumption | exact w12_few_fine (by assumption)) | exact w12_few_fine (by assumption) | exact cons2_fine hp1 ⟨hp1.2.2.2.2.2.2.2.1, Int.le_refl 0, (by decide : (0 : Int) ≤ 18446744073709551615), Nat.zero_le _, Nat.zero_le _, Nat.zero_le _, ref_size _, Nat.zero_le _, Nat.zero_le _⟩ (w12_few_fine hp0) | (simp only [List.mem_cons, List.not_mem_nil, or_false, forall_eq_or_imp, forall_eq, XObj.Fine, size_mk]; decide)) (need_nil)), ?_⟩
 exact ⟨trivial, .inl (by kernel_rfl), by kernel_rfl⟩
noncomputable def bind_Best_fact : Fact Tryz.prog := factOf 43 Tryz.f43 (by kernel_rfl) rfl (by kernel_rfl) [.c (.coll .obj), .st .obj] [] true (fun t u => .tup [.agg (oc ((bind_BestF t.1 t.2.1).1)), .bool ((bind_BestF t.1 t.2.1).2)]) (fun t u => []) (fun t u => [t.1.length ≤ 64, ∀ o ∈ t.1, o.Fine])
 (fun _ _ _ => rfl) (fun t u => by kernel_rfl) (fun t u => by kernel_rfl) (fun t u h => bind_BestF_tr t.1 t.2.1 (h _ List.mem_cons_self) (h _ (List.mem_cons_of_mem _ List.mem_cons_self)))
noncomputable def E_bind_world_wait : Env := envOf (P := Tryz.prog) [bind_Best_fact, bind_Ref_fact, bind_write_fact, bind_world_get_fact, bind_world_node_fact] [] [] ckf
def bind_world_waitF (a1 : XObj) (a2 : Int) (b0 : List XObj) : XAct :=
 cond ((bind_BestF b0 a1).2)
  (bind_writeF ({ ((bind_BestF b0 a1).1) with claim := bind_RefF a1, phase := (3 : Int) } : XObj))
  (cond (!((bind_world_nodeF a1 b0).2))
    (cond (cond (!(cond ((bind_world_getF (1 : Int) a1.cls b0).2) (!(((bind_world_getF (1 : Int) a1.cls b0).1).wait)) false)) true (decide ((((bind_world_getF (1 : Int) a1.cls b0).1).zone) = (⟨#[]⟩ : ByteArray))))
      (default : XAct)
      (cond (!(decide (a1.source = (⟨#[]⟩ : ByteArray))))
        (cond (cond (cond (cond (!((bind_world_getF (7 : Int) a1.source b0).2)) true (((bind_world_getF (7 : Int) a1.source b0).1).deleting)) true (!((((bind_world_getF (7 : Int) a1.source b0).1).phase) == (11 : Int)))) true (decide ((((bind_world_getF (7 : Int) a1.source b0).1).got) > a1.size)))
          (default : XAct)
          (bind_writeF ({ a1 with zone := ((bind_world_getF (1 : Int) a1.cls b0).1).zone, phase := (2 : Int), num := (IntKind.u64.wrap (a2 + (1 : Int))) } : XObj)))
        (bind_writeF ({ a1 with zone := ((bind_world_getF (1 : Int) a1.cls b0).1).zone, phase := (2 : Int), num := (IntKind.u64.wrap (a2 + (1 : Int))) } : XObj))))
    (cond (cond (!((bind_world_getF (1 : Int) a1.cls b0).2)) true (decide ((((bind_world_nodeF a1 b0).1).zone) = (⟨#[]⟩ : ByteArray))))
      (default : XAct)
      (cond (!(decide (a1.source = (⟨#[]⟩ : ByteArray))))
        (cond (cond (cond (cond (!((bind_world_getF (7 : Int) a1.source b0).2)) true (((bind_world_getF (7 : Int) a1.source b0).1).deleting)) true (!((((bind_world_getF (7 : Int) a1.source b0).1).phase) == (11 : Int)))) true (decide ((((bind_world_getF (7 : Int) a1.source b0).1).got) > a1.size)))
          (default : XAct)
          (bind_writeF ({ a1 with zone := ((bind_world_nodeF a1 b0).1).zone, phase := (2 : Int), num := (IntKind.u64.wrap (a2 + (1 : Int))) } : XObj)))
        (bind_writeF ({ a1 with zone := ((bind_world_nodeF a1 b0).1).zone, phase := (2 : Int), num := (IntKind.u64.wrap (a2 + (1 : Int))) } : XObj)))))
def bind_world_waitR (a1 : XObj) (a2 : Int) (b0 : List XObj) : RT :=
 (.need [b0.length ≤ 64, ∀ o ∈ b0, o.Fine]
   (.ask ((bind_BestF b0 a1).2)
     (.need [a1.Fine]
       (.leaf .ret ⟨slots 99 [(6, .ptr 1 0)], [.vec true ⟨.obj, b0⟩, .cells 39 (ac (bind_writeF ({ ((bind_BestF b0 a1).1) with claim := bind_RefF a1, phase := (3 : Int) } : XObj)))]⟩ [0, 3]))
     (.need [b0.length < 4611686018427387904, ∀ o ∈ b0, o.Fine]
       (.need [b0.length < 4611686018427387904, ∀ o ∈ b0, o.Fine]
         (.ask (!((bind_world_nodeF a1 b0).2))
           (.ask (cond (!(cond ((bind_world_getF (1 : Int) a1.cls b0).2) (!(((bind_world_getF (1 : Int) a1.cls b0).1).wait)) false)) true (decide ((((bind_world_getF (1 : Int) a1.cls b0).1).zone) = (⟨#[]⟩ : ByteArray))))
             (.leaf .ret ⟨slots 99 [(6, .ptr 1 0)], [.vec true ⟨.obj, b0⟩, .cells 39 [.int .u8 0, .int .u8 0, .str (⟨#[]⟩ : ByteArray), .int .u64 0, .int .u64 0, .bool false, .bool false, .str (⟨#[]⟩ : ByteArray), .int .i64 0, .int .i64 0, .int .u8 0, .bool false, .bool false, .str (⟨#[]⟩ : ByteArray), .str (⟨#[]⟩ : ByteArray), .str (⟨#[]⟩ : ByteArray), .str (⟨#[]⟩ : ByteArray), .str (⟨#[]⟩ : ByteArray), .int .u8 0, .int .u64 0, .int .u64 0, .int .u8 0, .str (⟨#[]⟩ : ByteArray), .int .u64 0, .int .i64 0, .str (⟨#[]⟩ : ByteArray), .str (⟨#[]⟩ : ByteArray), .str (⟨#[]⟩ : ByteArray)]]⟩ [0, 3])
             (.ask (!(decide (a1.source = (⟨#[]⟩ : ByteArray))))
               (.need [b0.length < 4611686018427387904, ∀ o ∈ b0, o.Fine]
                 (.ask (cond (cond (cond (!((bind_world_getF (7 : Int) a1.source b0).2)) true (((bind_world_getF (7 : Int) a1.source b0).1).deleting)) true (!((((bind_world_getF (7 : Int) a1.source b0).1).phase) == (11 : Int)))) true (decide ((((bind_world_getF (7 : Int) a1.source b0).1).got) > a1.size)))
                   (.leaf .ret ⟨slots 99 [(6, .ptr 1 0)], [.vec true ⟨.obj, b0⟩, .cells 39 [.int .u8 0, .int .u8 0, .str (⟨#[]⟩ : ByteArray), .int .u64 0, .int .u64 0, .bool false, .bool false, .str (⟨#[]⟩ : ByteArray), .int .i64 0, .int .i64 0, .int .u8 0, .bool false, .bool false, .str (⟨#[]⟩ : ByteArray), .str (⟨#[]⟩ : ByteArray), .str (⟨#[]⟩ : ByteArray), .str (⟨#[]⟩ : ByteArray), .str (⟨#[]⟩ : ByteArray), .int .u8 0, .int .u64 0, .int .u64 0, .int .u8 0, .str (⟨#[]⟩ : ByteArray), .int .u64 0, .int .i64 0, .str (⟨#[]⟩ : ByteArray), .str (⟨#[]⟩ : ByteArray), .str (⟨#[]⟩ : ByteArray)]]⟩ [0, 3])
                   (.leaf .ret ⟨slots 99 [(6, .ptr 1 0)], [.vec true ⟨.obj, b0⟩, .cells 39 (ac (bind_writeF ({ a1 with zone := ((bind_world_getF (1 : Int) a1.cls b0).1).zone, phase := (2 : Int), num := (IntKind.u64.wrap (a2 + (1 : Int))) } : XObj)))]⟩ [0, 3])))
               (.leaf .ret ⟨slots 99 [(6, .ptr 1 0)], [.vec true ⟨.obj, b0⟩, .cells 39 (ac (bind_writeF ({ a1 with zone := ((bind_world_getF (1 : Int) a1.cls b0).1).zone, phase := (2 : Int), num := (IntKind.u64.wrap (a2 + (1 : Int))) } : XObj)))]⟩ [0, 3])))
           (.ask (cond (!((bind_world_getF (1 : Int) a1.cls b0).2)) true (decide ((((bind_world_nodeF a1 b0).1).zone) = (⟨#[]⟩ : ByteArray))))
             (.leaf .ret ⟨slots 99 [(6, .ptr 1 0)], [.vec true ⟨.obj, b0⟩, .cells 39 [.int .u8 0, .int .u8 0, .str (⟨#[]⟩ : ByteArray), .int .u64 0, .int .u64 0, .bool false, .bool false, .str (⟨#[]⟩ : ByteArray), .int .i64 0, .int .i64 0, .int .u8 0, .bool false, .bool false, .str (⟨#[]⟩ : ByteArray), .str (⟨#[]⟩ : ByteArray), .str (⟨#[]⟩ : ByteArray), .str (⟨#[]⟩ : ByteArray), .str (⟨#[]⟩ : ByteArray), .int .u8 0, .int .u64 0, .int .u64 0, .int .u8 0, .str (⟨#[]⟩ : ByteArray), .int .u64 0, .int .i64 0, .str (⟨#[]⟩ : ByteArray), .str (⟨#[]⟩ : ByteArray), .str (⟨#[]⟩ : ByteArray)]]⟩ [0, 3])
             (.ask (!(decide (a1.source = (⟨#[]⟩ : ByteArray))))
               (.need [b0.length < 4611686018427387904, ∀ o ∈ b0, o.Fine]
                 (.ask (cond (cond (cond (!((bind_world_getF (7 : Int) a1.source b0).2)) true (((bind_world_getF (7 : Int) a1.source b0).1).deleting)) true (!((((bind_world_getF (7 : Int) a1.source b0).1).phase) == (11 : Int)))) true (decide ((((bind_world_getF (7 : Int) a1.source b0).1).got) > a1.size)))
                   (.leaf .ret ⟨slots 99 [(6, .ptr 1 0)], [.vec true ⟨.obj, b0⟩, .cells 39 [.int .u8 0, .int .u8 0, .str (⟨#[]⟩ : ByteArray), .int .u64 0, .int .u64 0, .bool false, .bool false, .str (⟨#[]⟩ : ByteArray), .int .i64 0, .int .i64 0, .int .u8 0, .bool false, .bool false, .str (⟨#[]⟩ : ByteArray), .str (⟨#[]⟩ : ByteArray), .str (⟨#[]⟩ : ByteArray), .str (⟨#[]⟩ : ByteArray), .str (⟨#[]⟩ : ByteArray), .int .u8 0, .int .u64 0, .int .u64 0, .int .u8 0, .str (⟨#[]⟩ : ByteArray), .int .u64 0, .int .i64 0, .str (⟨#[]⟩ : ByteArray), .str (⟨#[]⟩ : ByteArray), .str (⟨#[]⟩ : ByteArray)]]⟩ [0, 3])
                   (.leaf .ret ⟨slots 99 [(6, .ptr 1 0)], [.vec true ⟨.obj, b0⟩, .cells 39 (ac (bind_writeF ({ a1 with zone := ((bind_world_nodeF a1 b0).1).zone, phase := (2 : Int), num := (IntKind.u64.wrap (a2 + (1 : Int))) } : XObj)))]⟩ [0, 3])))
               (.leaf .ret ⟨slots 99 [(6, .ptr 1 0)], [.vec true ⟨.obj, b0⟩, .cells 39 (ac (bind_writeF ({ a1 with zone := ((bind_world_nodeF a1 b0).1).zone, phase := (2 : Int), num := (IntKind.u64.wrap (a2 + (1 : Int))) } : XObj)))]⟩ [0, 3]))))))))
theorem bind_world_waitF_tr (a1 : XObj) (a2 : Int) (b0 : List XObj) (hp0 : b0.length ≤ 64) (hp1 : ∀ o ∈ b0, o.Fine) (hp2 : a1.Fine) : Tr Tryz.prog 1 (bodyOf Tryz.f26) (fnBegins Tryz.f26 [.agg [.vec 0], .agg (oc a1), .int .u64 a2] [.vec true ⟨.obj, b0⟩]) (fnEnds Tryz.prog Tryz.f26 (.agg (ac (bind_world_waitF a1 a2 b0))) [.vec true ⟨.obj, b0⟩]) := by
 refine Tr_tree (kok _ _ _ _ _ _) (E := E_bind_world_wait) (L := noLoops) 60 9999 LoopsOk.none (bind_world_waitR a1 a2 b0) (by kernel_rfl) (by kernel_rfl) (by kernel_rfl) ?_
 unfold bind_world_waitR
 refine ⟨need_cons (by (try refine fun (_ : _ = _) => ?_); first | assumption | omega | exact of_len _ (by first | assumption | omega | exact Nat.le_trans (w12_few_len _) (by decide)) | exact r12_Uniq_len _ (by first | assumption | omega | exact Nat.le_trans (w12_few_len _) (by decide)) | exact Nat.le_trans (w12_few_len _) (by decide) | decide | (simp only [List.length_append, List.length_cons, List.length_nil]; have := w12_few_len a0; omega)) (need_cons (by (try refine fun (_ : _ = _) => ?_); first | assumption | exact of_fine _ (by first | assumption | exact w12_few_fine (by assumption)) | exact r12_Uniq_fine _ (by first | assumption | exact w12_few_fine (by assumption)) | exact w12_few_fine (by assumption) | exact cons2_fine hp1 ⟨hp1.2.2.2.2.2.2.2.1, Int.le_refl 0, (by decide : (0 : Int) ≤ 18446744073709551615), Nat.zero_le _, Nat.zero_le _, Nat.zero_le _, ref_size _, Nat.zero_le _, Nat.zero_le _⟩ (w12_few_fine hp0) | (simp only [List.mem_cons, List.not_mem_nil, or_false, forall_eq_or_imp, forall_eq, XObj.Fine, size_mk]; decide)) (need_nil)), ?_⟩
 refine ⟨fun h0 => ?_, fun h0 => ?_⟩
 · refine ⟨need_cons (by (try refine fun (_ : _ = _) => ?_); first | assumption | exact get_fine _ _ _ (by first | assumption | exact of_fine _ (by first | assumption | exact w12_few_fine (by assumption)) | exact r12_Uniq_fine _ (by first | assumption | exact w12_few_fine (by assumption)) | exact w12_few_fine (by assumption)) | exact r12_Get_fine _ _ _ (by first | assumption | exact of_fine _ (by first | assumption | exact w12_few_fine (by assumption)) | exact r12_Uniq_fine _ (by first | assumption | exact w12_few_fine (by assumption)) | exact w12_few_fine (by assumption)) | exact fine_default | exact hp1 _ (gD_mem (by assumption)) | exact r12_Uniq_fine _ (by assumption) _ (gD_mem (by assumption)) | exact of_fine _ (by assumption) _ (gD_mem (by assumption)) | exact w12_few_fine (by assumption) _ (gD_mem (by assumption)) | exact hp1 | exact hp0 | (refine ⟨?_, ?_, ?_, ?_, ?_, ?_, ?_, ?_, ?_⟩ <;> first | assumption | decide | (simp only [size_mk]; decide))) (need_nil), ?_⟩
   have hF : bind_world_waitF a1 a2 b0 = (bind_writeF ({ ((bind_BestF b0 a1).1) with claim := bind_RefF a1, phase := (3 : Int) } : XObj)) := by first | exact (cond_t h0 rfl) | simp only [bind_world_waitF, h0, cond_true, cond_false]
   exact ⟨trivial, .inl (by first | (rw [hF]; kernel_rfl) | kernel_rfl), by first | (rw [hF]; kernel_rfl) | kernel_rfl⟩
 · refine ⟨need_cons (by (try refine fun (_ : _ = _) => ?_); first | assumption | omega | exact of_short _ (by first | assumption | omega | exact Nat.le_trans (w12_few_len _) (by decide)) | exact r12_Uniq_short _ (by first | assumption | omega | exact Nat.le_trans (w12_few_len _) (by decide)) | exact Nat.lt_of_le_of_lt (w12_few_len _) (by decide) | decide | (simp only [List.length_append, List.length_cons, List.length_nil]; have := w12_few_len a0; omega)) (need_cons (by (try refine fun (_ : _ = _) => ?_); first | assumption | exact of_fine _ (by first | assumption | exact w12_few_fine (by assumption)) | exact r12_Uniq_fine _ (by first | assumption | exact w12_few_fine (by assumption)) | exact w12_few_fine (by assumption) | exact cons2_fine hp1 ⟨hp1.2.2.2.2.2.2.2.1, Int.le_refl 0, (by decide : (0 : Int) ≤ 18446744073709551615), Nat.zero_le _, Nat.zero_le _, Nat.zero_le _, ref_size _, Nat.zero_le _, Nat.zero_le _⟩ (w12_few_fine hp0) | (simp only [List.mem_cons, List.not_mem_nil, or_false, forall_eq_or_imp, forall_eq, XObj.Fine, size_mk]; decide)) (need_nil)), ?_⟩
   refine ⟨need_cons (by (try refine fun (_ : _ = _) => ?_); first | assumption | omega | exact of_short _ (by first | assumption | omega | exact Nat.le_trans (w12_few_len _) (by decide)) | exact r12_Uniq_short _ (by first | assumption | omega | exact Nat.le_trans (w12_few_len _) (by decide)) | exact Nat.lt_of_le_of_lt (w12_few_len _) (by decide) | decide | (simp only [List.length_append, List.length_cons, List.length_nil]; have := w12_few_len a0; omega)) (need_cons (by (try refine fun (_ : _ = _) => ?_); first | assumption | exact of_fine _ (by first | assumption | exact w12_few_fine (by assumption)) | exact r12_Uniq_fine _ (by first | assumption | exact w12_few_fine (by assumption)) | exact w12_few_fine (by assumption) | exact cons2_fine hp1 ⟨hp1.2.2.2.2.2.2.2.1, Int.le_refl 0, (by decide : (0 : Int) ≤ 18446744073709551615), Nat.zero_le _, Nat.zero_le _, Nat.zero_le _, ref_size _, Nat.zero_le _, Nat.zero_le _⟩ (w12_few_fine hp0) | (simp only [List.mem_cons, List.not_mem_nil, or_false, forall_eq_or_imp, forall_eq, XObj.Fine, size_mk]; decide)) (need_nil)), ?_⟩
   refine ⟨fun h1 => ?_, fun h1 => ?_⟩
   · refine ⟨fun h2 => ?_, fun h2 => ?_⟩
     · have hF : bind_world_waitF a1 a2 b0 = (default : XAct) := by first | exact (cond_f h0 (cond_t h1 (cond_t h2 rfl))) | simp only [bind_world_waitF, h0, h1, h2, cond_true, cond_false]
       exact ⟨trivial, .inl (by first | (rw [hF]; kernel_rfl) | kernel_rfl), by first | (rw [hF]; kernel_rfl) | kernel_rfl⟩
     · refine ⟨fun h3 => ?_, fun h3 => ?_⟩
       · refine ⟨need_cons (by (try refine fun (_ : _ = _) => ?_); first | assumption | omega | exact of_short _ (by first | assumption | omega | exact Nat.le_trans (w12_few_len _) (by decide)) | exact r12_Uniq_short _ (by first | assumption | omega | exact Nat.le_trans (w12_few_len _) (by decide)) | exact Nat.lt_of_le_of_lt (w12_few_len _) (by decide) | decide | (simp only [List.length_append, List.length_cons, List.length_nil]; have := w12_few_len a0; omega)) (need_cons (by (try refine fun (_ : _ = _) => ?_); first | assumption | exact of_fine _ (by first | assumption | exact w12_few_fine (by assumption)) | exact r12_Uniq_fine _ (by first | assumption | exact w12_few_fine (by assumption)) | exact w12_few_fine (by assumption) | exact cons2_fine hp1 ⟨hp1.2.2.2.2.2.2.2.1, Int.le_refl 0, (by decide : (0 : Int) ≤ 18446744073709551615), Nat.zero_le _, Nat.zero_le _, Nat.zero_le _, ref_size _, Nat.zero_le _, Nat.zero_le _⟩ (w12_few_fine hp0) | (simp only [List.mem_cons, List.not_mem_nil, or_false, forall_eq_or_imp, forall_eq, XObj.Fine, size_mk]; decide)) (need_nil)), ?_⟩
         refine ⟨fun h4 => ?_, fun h4 => ?_⟩
         · have hF : bind_world_waitF a1 a2 b0 = (default : XAct) := by first | exact (cond_f h0 (cond_t h1 (cond_f h2 (cond_t h3 (cond_t h4 rfl))))) | simp only [bind_world_waitF, h0, h1, h2, h3, h4, cond_true, cond_false]
           exact ⟨trivial, .inl (by first | (rw [hF]; kernel_rfl) | kernel_rfl), by first | (rw [hF]; kernel_rfl) | kernel_rfl⟩
         · have hF : bind_world_waitF a1 a2 b0 = (bind_writeF ({ a1 with zone := ((bind_world_getF (1 : Int) a1.cls b0).1).zone, phase := (2 : Int), num := (IntKind.u64.wrap (a2 + (1 : Int))) } : XObj)) := by first | exact (cond_f h0 (cond_t h1 (cond_f h2 (cond_t h3 (cond_f h4 rfl))))) | simp only [bind_world_waitF, h0, h1, h2, h3, h4, cond_true, cond_false]
           exact ⟨trivial, .inl (by first | (rw [hF]; kernel_rfl) | kernel_rfl), by first | (rw [hF]; kernel_rfl) | kernel_rfl⟩
       · have hF : bind_world_waitF a1 a2 b0 = (bind_writeF ({ a1 with zone := ((bind_world_getF (1 : Int) a1.cls b0).1).zone, phase := (2 : Int), num := (IntKind.u64.wrap (a2 + (1 : Int))) } : XObj)) := by first | exact (cond_f h0 (cond_t h1 (cond_f h2 (cond_f h3 rfl)))) | simp only [bind_world_waitF, h0, h1, h2, h3, cond_true, cond_false]
         exact ⟨trivial, .inl (by first | (rw [hF]; kernel_rfl) | kernel_rfl), by first | (rw [hF]; kernel_rfl) | kernel_rfl⟩
   · refine ⟨fun h2 => ?_, fun h2 => ?_⟩
     · have hF : bind_world_waitF a1 a2 b0 = (default : XAct) := by first | exact (cond_f h0 (cond_f h1 (cond_t h2 rfl))) | simp only [bind_world_waitF, h0, h1, h2, cond_true, cond_false]
       exact ⟨trivial, .inl (by first | (rw [hF]; kernel_rfl) | kernel_rfl), by first | (rw [hF]; kernel_rfl) | kernel_rfl⟩
     · refine ⟨fun h3 => ?_, fun h3 => ?_⟩
       · refine ⟨need_cons (by (try refine fun (_ : _ = _) => ?_); first | assumption | omega | exact of_short _ (by first | assumption | omega | exact Nat.le_trans (w12_few_len _) (by decide)) | exact r12_Uniq_short _ (by first | assumption | omega | exact Nat.le_trans (w12_few_len _) (by decide)) | exact Nat.lt_of_le_of_lt (w12_few_len _) (by decide) | decide | (simp only [List.length_append, List.length_cons, List.length_nil]; have := w12_few_len a0; omega)) (need_cons (by (try refine fun (_ : _ = _) => ?_); first | assumption | exact of_fine _ (by first | assumption | exact w12_few_fine (by assumption)) | exact r12_Uniq_fine _ (by first | assumption | exact w12_few_fine (by assumption)) | exact w12_few_fine (by assumption) | exact cons2_fine hp1 ⟨hp1.2.2.2.2.2.2.2.1, Int.le_refl 0, (by decide : (0 : Int) ≤ 18446744073709551615), Nat.zero_le _, Nat.zero_le _, Nat.zero_le _, ref_size _, Nat.zero_le _, Nat.zero_le _⟩ (w12_few_fine hp0) | (simp only [List.mem_cons, List.not_mem_nil, or_false, forall_eq_or_imp, forall_eq, XObj.Fine, size_mk]; decide)) (need_nil)), ?_⟩
         refine ⟨fun h4 => ?_, fun h4 => ?_⟩
         · have hF : bind_world_waitF a1 a2 b0 = (default : XAct) := by first | exact (cond_f h0 (cond_f h1 (cond_f h2 (cond_t h3 (cond_t h4 rfl))))) | simp only [bind_world_waitF, h0, h1, h2, h3, h4, cond_true, cond_false]
           exact ⟨trivial, .inl (by first | (rw [hF]; kernel_rfl) | kernel_rfl), by first | (rw [hF]; kernel_rfl) | kernel_rfl⟩
         · have hF : bind_world_waitF a1 a2 b0 = (bind_writeF ({ a1 with zone := ((bind_world_nodeF a1 b0).1).zone, phase := (2 : Int), num := (IntKind.u64.wrap (a2 + (1 : Int))) } : XObj)) := by first | exact (cond_f h0 (cond_f h1 (cond_f h2 (cond_t h3 (cond_f h4 rfl))))) | simp only [bind_world_waitF, h0, h1, h2, h3, h4, cond_true, cond_false]
           exact ⟨trivial, .inl (by first | (rw [hF]; kernel_rfl) | kernel_rfl), by first | (rw [hF]; kernel_rfl) | kernel_rfl⟩
       · have hF : bind_world_waitF a1 a2 b0 = (bind_writeF ({ a1 with zone := ((bind_world_nodeF a1 b0).1).zone, phase := (2 : Int), num := (IntKind.u64.wrap (a2 + (1 : Int))) } : XObj)) := by first | exact (cond_f h0 (cond_f h1 (cond_f h2 (cond_f h3 rfl)))) | simp only [bind_world_waitF, h0, h1, h2, h3, cond_true, cond_false]
         exact ⟨trivial, .inl (by first | (rw [hF]; kernel_rfl) | kernel_rfl), by first | (rw [hF]; kernel_rfl) | kernel_rfl⟩
noncomputable def bind_world_wait_fact : Fact Tryz.prog := factOf 26 Tryz.f26 (by kernel_rfl) rfl (by kernel_rfl) [.agg [.vec 0], .st .obj, .c (.int .u64)] [.vec true .obj] true (fun t u => .agg (ac (bind_world_waitF t.2.1 t.2.2.1 u.1))) (fun t u => HPL.enc _ u) (fun t u => [u.1.length ≤ 64, ∀ o ∈ u.1, o.Fine, t.2.1.Fine])
 (fun _ _ _ => rfl) (fun t u => by kernel_rfl) (fun t u => by kernel_rfl) (fun t u h => bind_world_waitF_tr t.2.1 t.2.2.1 u.1 (h _ List.mem_cons_self) (h _ (List.mem_cons_of_mem _ List.mem_cons_self)) (h _ (List.mem_cons_of_mem _ (List.mem_cons_of_mem _ List.mem_cons_self))))
noncomputable def E_bind_Claim : Env := envOf (P := Tryz.prog) [bind_of_fact, bind_world_get_fact, bind_Handle_fact, bind_world_any_fact, bind_world_any_2_fact, bind_remove_fact, bind_world_some_4_fact, bind_write_fact, bind_world_give_fact, bind_world_create_fact, bind_world_wait_fact] [] [] ckf
def bind_ClaimF (a0 : List XObj) (a1 : Int) (a2 : ByteArray) : XAct :=
 cond (cond (!((bind_world_getF (3 : Int) a2 (bind_ofF a0)).2)) true (decide ((bind_HandleF ((bind_world_getF (3 : Int) a2 (bind_ofF a0)).1)) = (⟨#[]⟩ : ByteArray))))
  (default : XAct)
  (cond ((((bind_world_getF (3 : Int) a2 (bind_ofF a0)).1).phase) == (3 : Int))
    (cond (cond (cond (bind_world_anyF (6 : Int) (bind_ofF a0) ((bind_world_getF (3 : Int) a2 (bind_ofF a0)).1)) true (!(((bind_world_getF (3 : Int) a2 (bind_ofF a0)).1).deleting))) true (bind_world_any_2F (5 : Int) (bind_ofF a0) ((bind_world_getF (3 : Int) a2 (bind_ofF a0)).1)))
      (default : XAct)
      (bind_removeF ((bind_world_getF (3 : Int) a2 (bind_ofF a0)).1)))
    (cond ((bind_Claim_itLF a0 a2 (bind_ofF a0) (default : XObj) false).2)
      (bind_writeF ({ ((bind_world_getF (3 : Int) a2 (bind_ofF a0)).1) with got := (((bind_Claim_itLF a0 a2 (bind_ofF a0) (default : XObj) false).1).got), zone := ((bind_Claim_itLF a0 a2 (bind_ofF a0) (default : XObj) false).1).zone, volume := ((bind_Claim_itLF a0 a2 (bind_ofF a0) (default : XObj) false).1).name, phase := (3 : Int), num := (0 : Int) } : XObj))
      (cond (((bind_world_getF (3 : Int) a2 (bind_ofF a0)).1).deleting)
        (bind_world_giveF ((bind_world_getF (3 : Int) a2 (bind_ofF a0)).1) a1 (bind_ofF a0))
        (cond ((((bind_world_getF (3 : Int) a2 (bind_ofF a0)).1).phase) == (2 : Int))
          (bind_world_createF ((bind_world_getF (3 : Int) a2 (bind_ofF a0)).1) (bind_ofF a0))
          (cond ((((bind_world_getF (3 : Int) a2 (bind_ofF a0)).1).phase) == (1 : Int))
            (bind_world_waitF ((bind_world_getF (3 : Int) a2 (bind_ofF a0)).1) a1 (bind_ofF a0))
            (default : XAct))))))
def bind_ClaimR (a0 : List XObj) (a1 : Int) (a2 : ByteArray) : RT :=
 (.need [a0.length ≤ 64]
   (.need [(bind_ofF a0).length < 4611686018427387904, ∀ o ∈ (bind_ofF a0), o.Fine]
     (.need [((!((bind_world_getF (3 : Int) a2 (bind_ofF a0)).2)) = false) → (((bind_world_getF (3 : Int) a2 (bind_ofF a0)).1).Fine)]
       (.ask (cond (!((bind_world_getF (3 : Int) a2 (bind_ofF a0)).2)) true (decide ((bind_HandleF ((bind_world_getF (3 : Int) a2 (bind_ofF a0)).1)) = (⟨#[]⟩ : ByteArray))))
         (.leaf .ret ⟨slots 102 [(6, .ptr 0 0)], [.cells 39 [.int .u8 0, .int .u8 0, .str (⟨#[]⟩ : ByteArray), .int .u64 0, .int .u64 0, .bool false, .bool false, .str (⟨#[]⟩ : ByteArray), .int .i64 0, .int .i64 0, .int .u8 0, .bool false, .bool false, .str (⟨#[]⟩ : ByteArray), .str (⟨#[]⟩ : ByteArray), .str (⟨#[]⟩ : ByteArray), .str (⟨#[]⟩ : ByteArray), .str (⟨#[]⟩ : ByteArray), .int .u8 0, .int .u64 0, .int .u64 0, .int .u8 0, .str (⟨#[]⟩ : ByteArray), .int .u64 0, .int .i64 0, .str (⟨#[]⟩ : ByteArray), .str (⟨#[]⟩ : ByteArray), .str (⟨#[]⟩ : ByteArray)]]⟩ [])
         (.ask ((((bind_world_getF (3 : Int) a2 (bind_ofF a0)).1).phase) == (3 : Int))
           (.need [(bind_ofF a0).length < 4611686018427387904, ∀ o ∈ (bind_ofF a0), o.Fine]
             (.need [((cond (bind_world_anyF (6 : Int) (bind_ofF a0) ((bind_world_getF (3 : Int) a2 (bind_ofF a0)).1)) true (!(((bind_world_getF (3 : Int) a2 (bind_ofF a0)).1).deleting))) = false) → ((bind_ofF a0).length < 4611686018427387904), ((cond (bind_world_anyF (6 : Int) (bind_ofF a0) ((bind_world_getF (3 : Int) a2 (bind_ofF a0)).1)) true (!(((bind_world_getF (3 : Int) a2 (bind_ofF a0)).1).deleting))) = false) → (∀ o ∈ (bind_ofF a0), o.Fine)]
               (.ask (cond (cond (bind_world_anyF (6 : Int) (bind_ofF a0) ((bind_world_getF (3 : Int) a2 (bind_ofF a0)).1)) true (!(((bind_world_getF (3 : Int) a2 (bind_ofF a0)).1).deleting))) true (bind_world_any_2F (5 : Int) (bind_ofF a0) ((bind_world_getF (3 : Int) a2 (bind_ofF a0)).1)))
                 (.leaf .ret ⟨slots 102 [(6, .ptr 0 0)], [.cells 39 [.int .u8 0, .int .u8 0, .str (⟨#[]⟩ : ByteArray), .int .u64 0, .int .u64 0, .bool false, .bool false, .str (⟨#[]⟩ : ByteArray), .int .i64 0, .int .i64 0, .int .u8 0, .bool false, .bool false, .str (⟨#[]⟩ : ByteArray), .str (⟨#[]⟩ : ByteArray), .str (⟨#[]⟩ : ByteArray), .str (⟨#[]⟩ : ByteArray), .str (⟨#[]⟩ : ByteArray), .int .u8 0, .int .u64 0, .int .u64 0, .int .u8 0, .str (⟨#[]⟩ : ByteArray), .int .u64 0, .int .i64 0, .str (⟨#[]⟩ : ByteArray), .str (⟨#[]⟩ : ByteArray), .str (⟨#[]⟩ : ByteArray)]]⟩ [])
                 (.leaf .ret ⟨slots 102 [(6, .ptr 0 0)], [.cells 39 (ac (bind_removeF ((bind_world_getF (3 : Int) a2 (bind_ofF a0)).1)))]⟩ []))))
           (.ask ((bind_Claim_itLF a0 a2 (bind_ofF a0) (default : XObj) false).2)
             (.leaf .ret ⟨slots 102 [(6, .ptr 0 0)], [.cells 39 (ac (bind_writeF ({ ((bind_world_getF (3 : Int) a2 (bind_ofF a0)).1) with got := (((bind_Claim_itLF a0 a2 (bind_ofF a0) (default : XObj) false).1).got), zone := ((bind_Claim_itLF a0 a2 (bind_ofF a0) (default : XObj) false).1).zone, volume := ((bind_Claim_itLF a0 a2 (bind_ofF a0) (default : XObj) false).1).name, phase := (3 : Int), num := (0 : Int) } : XObj)))]⟩ [])
             (.ask (((bind_world_getF (3 : Int) a2 (bind_ofF a0)).1).deleting)
               (.need [((bind_world_getF (3 : Int) a2 (bind_ofF a0)).1).Fine]
                 (.leaf .ret ⟨slots 102 [(6, .ptr 0 0)], [.cells 39 (ac (bind_world_giveF ((bind_world_getF (3 : Int) a2 (bind_ofF a0)).1) a1 (bind_ofF a0)))]⟩ []))
               (.ask ((((bind_world_getF (3 : Int) a2 (bind_ofF a0)).1).phase) == (2 : Int))
                 (.need [(bind_ofF a0).length < 4611686018427387904, ∀ o ∈ (bind_ofF a0), o.Fine, ((bind_world_getF (3 : Int) a2 (bind_ofF a0)).1).Fine]
                   (.leaf .ret ⟨slots 102 [(6, .ptr 0 0)], [.cells 39 (ac (bind_world_createF ((bind_world_getF (3 : Int) a2 (bind_ofF a0)).1) (bind_ofF a0)))]⟩ []))
                 (.ask ((((bind_world_getF (3 : Int) a2 (bind_ofF a0)).1).phase) == (1 : Int))
                   (.need [(bind_ofF a0).length ≤ 64, ∀ o ∈ (bind_ofF a0), o.Fine, ((bind_world_getF (3 : Int) a2 (bind_ofF a0)).1).Fine]
                     (.leaf .ret ⟨slots 102 [(6, .ptr 0 0)], [.cells 39 (ac (bind_world_waitF ((bind_world_getF (3 : Int) a2 (bind_ofF a0)).1) a1 (bind_ofF a0)))]⟩ []))
                   (.leaf .ret ⟨slots 102 [(6, .ptr 0 0)], [.cells 39 [.int .u8 0, .int .u8 0, .str (⟨#[]⟩ : ByteArray), .int .u64 0, .int .u64 0, .bool false, .bool false, .str (⟨#[]⟩ : ByteArray), .int .i64 0, .int .i64 0, .int .u8 0, .bool false, .bool false, .str (⟨#[]⟩ : ByteArray), .str (⟨#[]⟩ : ByteArray), .str (⟨#[]⟩ : ByteArray), .str (⟨#[]⟩ : ByteArray), .str (⟨#[]⟩ : ByteArray), .int .u8 0, .int .u64 0, .int .u64 0, .int .u8 0, .str (⟨#[]⟩ : ByteArray), .int .u64 0, .int .i64 0, .str (⟨#[]⟩ : ByteArray), .str (⟨#[]⟩ : ByteArray), .str (⟨#[]⟩ : ByteArray)]]⟩ []))))))))))
theorem bind_ClaimF_tr (a0 : List XObj) (a1 : Int) (a2 : ByteArray) (hp0 : a0.length ≤ 64) (hp1 : ∀ o ∈ a0, o.Fine) : Tr Tryz.prog 0 (bodyOf Tryz.f6) (fnBegins Tryz.f6 [.coll ⟨.obj, a0⟩, .int .u64 a1, .str a2] []) (fnEnds Tryz.prog Tryz.f6 (.agg (ac (bind_ClaimF a0 a1 a2))) []) := by
 refine Tr_tree (kok _ _ _ _ _ _) (E := E_bind_Claim) (L := (loopsOf [(0, bind_Claim_itS a0 a1 a2, [0, 2, 4, 5, 6, 7, 8, 9, 1], bind_Claim_itT a0 a1 a2)])) 60 9999 (LoopsOk.oneR (g := loopAt Tryz.f6 0) (b := 0) (by kernel_rfl) (by kernel_rfl) (by kernel_rfl) (by kernel_rfl) (fun Q h => bind_Claim_it_rg a0 a1 a2 hp0 hp1 Q h)) (bind_ClaimR a0 a1 a2) (by kernel_rfl) (by kernel_rfl) (by kernel_rfl) ?_
 unfold bind_ClaimR
 refine ⟨need_cons (by (try refine fun (_ : _ = _) => ?_); first | assumption | omega | exact of_len _ (by first | assumption | omega | exact Nat.le_trans (w12_few_len _) (by decide)) | exact r12_Uniq_len _ (by first | assumption | omega | exact Nat.le_trans (w12_few_len _) (by decide)) | exact Nat.le_trans (w12_few_len _) (by decide) | decide | (simp only [List.length_append, List.length_cons, List.length_nil]; have := w12_few_len a0; omega)) (need_nil), ?_⟩
 refine ⟨need_cons (by (try refine fun (_ : _ = _) => ?_); first | assumption | omega | exact of_short _ (by first | assumption | omega | exact Nat.le_trans (w12_few_len _) (by decide)) | exact r12_Uniq_short _ (by first | assumption | omega | exact Nat.le_trans (w12_few_len _) (by decide)) | exact Nat.lt_of_le_of_lt (w12_few_len _) (by decide) | decide | (simp only [List.length_append, List.length_cons, List.length_nil]; have := w12_few_len a0; omega)) (need_cons (by (try refine fun (_ : _ = _) => ?_); first | assumption | exact of_fine _ (by first | assumption | exact w12_few_fine (by assumption)) | exact r12_Uniq_fine _ (by first | assumption | exact w12_few_fine (by assumption)) | exact w12_few_fine (by assumption) | exact cons2_fine hp1 ⟨hp1.2.2.2.2.2.2.2.1, Int.le_refl 0, (by decide : (0 : Int) ≤ 18446744073709551615), Nat.zero_le _, Nat.zero_le _, Nat.zero_le _, ref_size _, Nat.zero_le _, Nat.zero_le _⟩ (w12_few_fine hp0) | (simp only [List.mem_cons, List.not_mem_nil, or_false, forall_eq_or_imp, forall_eq, XObj.Fine, size_mk]; decide)) (need_nil)), ?_⟩
 refine ⟨need_cons (by (try refine fun (_ : _ = _) => ?_); first | assumption | exact get_fine _ _ _ (by first | assumption | exact of_fine _ (by first | assumption | exact w12_few_fine (by assumption)) | exact r12_Uniq_fine _ (by first | assumption | exact w12_few_fine (by assumption)) | exact w12_few_fine (by assumption)) | exact r12_Get_fine _ _ _ (by first | assumption | exact of_fine _ (by first | assumption | exact w12_few_fine (by assumption)) | exact r12_Uniq_fine _ (by first | assumption | exact w12_few_fine (by assumption)) | exact w12_few_fine (by assumption)) | exact fine_default | exact hp1 _ (gD_mem (by assumption)) | exact r12_Uniq_fine _ (by assumption) _ (gD_mem (by assumption)) | exact of_fine _ (by assumption) _ (gD_mem (by assumption)) | exact w12_few_fine (by assumption) _ (gD_mem (by assumption)) | exact hp1 | exact hp0 | (refine ⟨?_, ?_, ?_, ?_, ?_, ?_, ?_, ?_, ?_⟩ <;> first | assumption | decide | (simp only [size_mk]; decide))) (need_nil), ?_⟩
 refine ⟨fun h0 => ?_, fun h0 => ?_⟩
 · have hF : bind_ClaimF a0 a1 a2 = (default : XAct) := by first | exact (cond_t h0 rfl) | simp only [bind_ClaimF, h0, cond_true, cond_false]
   exact ⟨trivial, .inl (by first | (rw [hF]; kernel_rfl) | kernel_rfl), by first | (rw [hF]; kernel_rfl) | kernel_rfl⟩
 · refine ⟨fun h1 => ?_, fun h1 => ?_⟩
   · refine ⟨need_cons (by (try refine fun (_ : _ = _) => ?_); first | assumption | omega | exact of_short _ (by first | assumption | omega | exact Nat.le_trans (w12_few_len _) (by decide)) | exact r12_Uniq_short _ (by first | assumption | omega | exact Nat.le_trans (w12_few_len _) (by decide)) | exact Nat.lt_of_le_of_lt (w12_few_len _) (by decide) | decide | (simp only [List.length_append, List.length_cons, List.length_nil]; have := w12_few_len a0; omega)) (need_cons (by (try refine fun (_ : _ = _) => ?_); first | assumption | exact of_fine _ (by first | assumption | exact w12_few_fine (by assumption)) | exact r12_Uniq_fine _ (by first | assumption | exact w12_few_fine (by assumption)) | exact w12_few_fine (by assumption) | exact cons2_fine hp1 ⟨hp1.2.2.2.2.2.2.2.1, Int.le_refl 0, (by decide : (0 : Int) ≤ 18446744073709551615), Nat.zero_le _, Nat.zero_le _, Nat.zero_le _, ref_size _, Nat.zero_le _, Nat.zero_le _⟩ (w12_few_fine hp0) | (simp only [List.mem_cons, List.not_mem_nil, or_false, forall_eq_or_imp, forall_eq, XObj.Fine, size_mk]; decide)) (need_nil)), ?_⟩
     refine ⟨need_cons (by (try refine fun (_ : _ = _) => ?_); first | assumption | omega | exact of_short _ (by first | assumption | omega | exact Nat.le_trans (w12_few_len _) (by decide)) | exact r12_Uniq_short _ (by first | assumption | omega | exact Nat.le_trans (w12_few_len _) (by decide)) | exact Nat.lt_of_le_of_lt (w12_few_len _) (by decide) | decide | (simp only [List.length_append, List.length_cons, List.length_nil]; have := w12_few_len a0; omega)) (need_cons (by (try refine fun (_ : _ = _) => ?_); first | assumption | exact of_fine _ (by first | assumption | exact w12_few_fine (by assumption)) | exact r12_Uniq_fine _ (by first | assumption | exact w12_few_fine (by assumption)) | exact w12_few_fine (by assumption) | exact cons2_fine hp1 ⟨hp1.2.2.2.2.2.2.2.1, Int.le_refl 0, (by decide : (0 : Int) ≤ 18446744073709551615), Nat.zero_le _, Nat.zero_le _, Nat.zero_le _, ref_size _, Nat.zero_le _, Nat.zero_le _⟩ (w12_few_fine hp0) | (simp only [List.mem_cons, List.not_mem_nil, or_false, forall_eq_or_imp, forall_eq, XObj.Fine, size_mk]; decide)) (need_nil)), ?_⟩
     refine ⟨fun h2 => ?_, fun h2 => ?_⟩
     · have hF : bind_ClaimF a0 a1 a2 = (default : XAct) := by first | exact (cond_f h0 (cond_t h1 (cond_t h2 rfl))) | simp only [bind_ClaimF, h0, h1, h2, cond_true, cond_false]
       exact ⟨trivial, .inl (by first | (rw [hF]; kernel_rfl) | kernel_rfl), by first | (rw [hF]; kernel_rfl) | kernel_rfl⟩
     · have hF : bind_ClaimF a0 a1 a2 = (bind_removeF ((bind_world_getF (3 : Int) a2 (bind_ofF a0)).1)) := by first | exact (cond_f h0 (cond_t h1 (cond_f h2 rfl))) | simp only [bind_ClaimF, h0, h1, h2, cond_true, cond_false]
       exact ⟨trivial, .inl (by first | (rw [hF]; kernel_rfl) | kernel_rfl), by first | (rw [hF]; kernel_rfl) | kernel_rfl⟩
   · refine ⟨fun h2 => ?_, fun h2 => ?_⟩
     · have hF : bind_ClaimF a0 a1 a2 = (bind_writeF ({ ((bind_world_getF (3 : Int) a2 (bind_ofF a0)).1) with got := (((bind_Claim_itLF a0 a2 (bind_ofF a0) (default : XObj) false).1).got), zone := ((bind_Claim_itLF a0 a2 (bind_ofF a0) (default : XObj) false).1).zone, volume := ((bind_Claim_itLF a0 a2 (bind_ofF a0) (default : XObj) false).1).name, phase := (3 : Int), num := (0 : Int) } : XObj)) := by first | exact (cond_f h0 (cond_f h1 (cond_t h2 rfl))) | simp only [bind_ClaimF, h0, h1, h2, cond_true, cond_false]
       exact ⟨trivial, .inl (by first | (rw [hF]; kernel_rfl) | kernel_rfl), by first | (rw [hF]; kernel_rfl) | kernel_rfl⟩
     · refine ⟨fun h3 => ?_, fun h3 => ?_⟩
       · refine ⟨need_cons (by (try refine fun (_ : _ = _) => ?_); first | assumption | exact get_fine _ _ _ (by first | assumption | exact of_fine _ (by first | assumption | exact w12_few_fine (by assumption)) | exact r12_Uniq_fine _ (by first | assumption | exact w12_few_fine (by assumption)) | exact w12_few_fine (by assumption)) | exact r12_Get_fine _ _ _ (by first | assumption | exact of_fine _ (by first | assumption | exact w12_few_fine (by assumption)) | exact r12_Uniq_fine _ (by first | assumption | exact w12_few_fine (by assumption)) | exact w12_few_fine (by assumption)) | exact fine_default | exact hp1 _ (gD_mem (by assumption)) | exact r12_Uniq_fine _ (by assumption) _ (gD_mem (by assumption)) | exact of_fine _ (by assumption) _ (gD_mem (by assumption)) | exact w12_few_fine (by assumption) _ (gD_mem (by assumption)) | exact hp1 | exact hp0 | (refine ⟨?_, ?_, ?_, ?_, ?_, ?_, ?_, ?_, ?_⟩ <;> first | assumption | decide | (simp only [size_mk]; decide))) (need_nil), ?_⟩
         have hF : bind_ClaimF a0 a1 a2 = (bind_world_giveF ((bind_world_getF (3 : Int) a2 (bind_ofF a0)).1) a1 (bind_ofF a0)) := by first | exact (cond_f h0 (cond_f h1 (cond_f h2 (cond_t h3 rfl)))) | simp only [bind_ClaimF, h0, h1, h2, h3, cond_true, cond_false]
         exact ⟨trivial, .inl (by first | (rw [hF]; kernel_rfl) | kernel_rfl), by first | (rw [hF]; kernel_rfl) | kernel_rfl⟩
       · refine ⟨fun h4 => ?_, fun h4 => ?_⟩
         · refine ⟨need_cons (by (try refine fun (_ : _ = _) => ?_); first | assumption | omega | exact of_short _ (by first | assumption | omega | exact Nat.le_trans (w12_few_len _) (by decide)) | exact r12_Uniq_short _ (by first | assumption | omega | exact Nat.le_trans (w12_few_len _) (by decide)) | exact Nat.lt_of_le_of_lt (w12_few_len _) (by decide) | decide | (simp only [List.length_append, List.length_cons, List.length_nil]; have := w12_few_len a0; omega)) (need_cons (by (try refine fun (_ : _ = _) => ?_); first | assumption | exact of_fine _ (by first | assumption | exact w12_few_fine (by assumption)) | exact r12_Uniq_fine _ (by first | assumption | exact w12_few_fine (by assumption)) | exact w12_few_fine (by assumption) | exact cons2_fine hp1 ⟨hp1.2.2.2.2.2.2.2.1, Int.le_refl 0, (by decide : (0 : Int) ≤ 18446744073709551615), Nat.zero_le _, Nat.zero_le _, Nat.zero_le _, ref_size _, Nat.zero_le _, Nat.zero_le _⟩ (w12_few_fine hp0) | (simp only [List.mem_cons, List.not_mem_nil, or_false, forall_eq_or_imp, forall_eq, XObj.Fine, size_mk]; decide)) (need_cons (by (try refine fun (_ : _ = _) => ?_); first | assumption | exact get_fine _ _ _ (by first | assumption | exact of_fine _ (by first | assumption | exact w12_few_fine (by assumption)) | exact r12_Uniq_fine _ (by first | assumption | exact w12_few_fine (by assumption)) | exact w12_few_fine (by assumption)) | exact r12_Get_fine _ _ _ (by first | assumption | exact of_fine _ (by first | assumption | exact w12_few_fine (by assumption)) | exact r12_Uniq_fine _ (by first | assumption | exact w12_few_fine (by assumption)) | exact w12_few_fine (by assumption)) | exact fine_default | exact hp1 _ (gD_mem (by assumption)) | exact r12_Uniq_fine _ (by assumption) _ (gD_mem (by assumption)) | exact of_fine _ (by assumption) _ (gD_mem (by assumption)) | exact w12_few_fine (by assumption) _ (gD_mem (by assumption)) | exact hp1 | exact hp0 | (refine ⟨?_, ?_, ?_, ?_, ?_, ?_, ?_, ?_, ?_⟩ <;> first | assumption | decide | (simp only [size_mk]; decide))) (need_nil))), ?_⟩
           have hF : bind_ClaimF a0 a1 a2 = (bind_world_createF ((bind_world_getF (3 : Int) a2 (bind_ofF a0)).1) (bind_ofF a0)) := by first | exact (cond_f h0 (cond_f h1 (cond_f h2 (cond_f h3 (cond_t h4 rfl))))) | simp only [bind_ClaimF, h0, h1, h2, h3, h4, cond_true, cond_false]
           exact ⟨trivial, .inl (by first | (rw [hF]; kernel_rfl) | kernel_rfl), by first | (rw [hF]; kernel_rfl) | kernel_rfl⟩
         · refine ⟨fun h5 => ?_, fun h5 => ?_⟩
           · refine ⟨need_cons (by (try refine fun (_ : _ = _) => ?_); first | assumption | omega | exact of_len _ (by first | assumption | omega | exact Nat.le_trans (w12_few_len _) (by decide)) | exact r12_Uniq_len _ (by first | assumption | omega | exact Nat.le_trans (w12_few_len _) (by decide)) | exact Nat.le_trans (w12_few_len _) (by decide) | decide | (simp only [List.length_append, List.length_cons, List.length_nil]; have := w12_few_len a0; omega)) (need_cons (by (try refine fun (_ : _ = _) => ?_); first | assumption | exact of_fine _ (by first | assumption | exact w12_few_fine (by assumption)) | exact r12_Uniq_fine _ (by first | assumption | exact w12_few_fine (by assumption)) | exact w12_few_fine (by assumption) | exact cons2_fine hp1 ⟨hp1.2.2.2.2.2.2.2.1, Int.le_refl 0, (by decide : (0 : Int) ≤ 18446744073709551615), Nat.zero_le _, Nat.zero_le _, Nat.zero_le _, ref_size _, Nat.zero_le _, Nat.zero_le _⟩ (w12_few_fine hp0) | (simp only [List.mem_cons, List.not_mem_nil, or_false, forall_eq_or_imp, forall_eq, XObj.Fine, size_mk]; decide)) (need_cons (by (try refine fun (_ : _ = _) => ?_); first | assumption | exact get_fine _ _ _ (by first | assumption | exact of_fine _ (by first | assumption | exact w12_few_fine (by assumption)) | exact r12_Uniq_fine _ (by first | assumption | exact w12_few_fine (by assumption)) | exact w12_few_fine (by assumption)) | exact r12_Get_fine _ _ _ (by first | assumption | exact of_fine _ (by first | assumption | exact w12_few_fine (by assumption)) | exact r12_Uniq_fine _ (by first | assumption | exact w12_few_fine (by assumption)) | exact w12_few_fine (by assumption)) | exact fine_default | exact hp1 _ (gD_mem (by assumption)) | exact r12_Uniq_fine _ (by assumption) _ (gD_mem (by assumption)) | exact of_fine _ (by assumption) _ (gD_mem (by assumption)) | exact w12_few_fine (by assumption) _ (gD_mem (by assumption)) | exact hp1 | exact hp0 | (refine ⟨?_, ?_, ?_, ?_, ?_, ?_, ?_, ?_, ?_⟩ <;> first | assumption | decide | (simp only [size_mk]; decide))) (need_nil))), ?_⟩
             have hF : bind_ClaimF a0 a1 a2 = (bind_world_waitF ((bind_world_getF (3 : Int) a2 (bind_ofF a0)).1) a1 (bind_ofF a0)) := by first | exact (cond_f h0 (cond_f h1 (cond_f h2 (cond_f h3 (cond_f h4 (cond_t h5 rfl)))))) | simp only [bind_ClaimF, h0, h1, h2, h3, h4, h5, cond_true, cond_false]
             exact ⟨trivial, .inl (by first | (rw [hF]; kernel_rfl) | kernel_rfl), by first | (rw [hF]; kernel_rfl) | kernel_rfl⟩
           · have hF : bind_ClaimF a0 a1 a2 = (default : XAct) := by first | exact (cond_f h0 (cond_f h1 (cond_f h2 (cond_f h3 (cond_f h4 (cond_f h5 rfl)))))) | simp only [bind_ClaimF, h0, h1, h2, h3, h4, h5, cond_true, cond_false]
             exact ⟨trivial, .inl (by first | (rw [hF]; kernel_rfl) | kernel_rfl), by first | (rw [hF]; kernel_rfl) | kernel_rfl⟩
noncomputable def bind_Claim_fact : Fact Tryz.prog := factOf 6 Tryz.f6 (by kernel_rfl) rfl (by kernel_rfl) [.c (.coll .obj), .c (.int .u64), .c (.str)] [] true (fun t u => .agg (ac (bind_ClaimF t.1 t.2.1 t.2.2.1))) (fun t u => []) (fun t u => [t.1.length ≤ 64, ∀ o ∈ t.1, o.Fine])
 (fun _ _ _ => rfl) (fun t u => by kernel_rfl) (fun t u => by kernel_rfl) (fun t u h => bind_ClaimF_tr t.1 t.2.1 t.2.2.1 (h _ List.mem_cons_self) (h _ (List.mem_cons_of_mem _ List.mem_cons_self)))
end Go.Proofs.YtkledlcmhbjadaaGreatDoor
