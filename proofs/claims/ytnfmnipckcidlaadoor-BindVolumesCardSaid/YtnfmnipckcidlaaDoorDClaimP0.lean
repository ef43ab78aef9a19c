/- Bind: what is done next for a claim. -/
import Derived.Test.YtnfmnipckcidlaaDoorDH1
set_option linter.unusedVariables false
set_option linter.unusedSimpArgs false
set_option maxRecDepth 100000
namespace Go.Proofs.YtnfmnipckcidlaaDoor
open Go Go.Eng
noncomputable def E_bind_world_some_2 : Env := envOf (P := Tryd.prog) [] [] [] ckf
def bind_world_some_2F (a1 : Int) (b0 : List XObj) (b1 : XObj) : Int :=
  a1
def bind_world_some_2R (a1 : Int) (b0 : List XObj) (b1 : XObj) : RT :=
  (.leaf .ret ⟨slots 8 [(6, .fn 66 [.ptr 2 0, .ptr 3 0, .ptr 4 0])], [.vec true ⟨.obj, b0⟩, .cells 31 (oc b1), .cells 61 [.vec 0], .cells 27 [.int .u8 a1], .cells 58 [.fn 32 [.ptr 1 0]]]⟩ [])
theorem bind_world_some_2F_tr (a1 : Int) (b0 : List XObj) (b1 : XObj)  : Tr Tryd.prog 2 (bodyOf Tryd.f35) (fnBegins Tryd.f35 [.agg [.vec 0], .int .u8 a1, .fn 32 [.ptr 1 0]] [.vec true ⟨.obj, b0⟩, .cells 31 (oc b1)]) (fnEnds Tryd.prog Tryd.f35 (.fn 66 [.ptr 2 0, .ptr 3 0, .ptr 4 0]) [.vec true ⟨.obj, b0⟩, .cells 31 (oc b1), .cells 61 [.vec 0], .cells 27 [.int .u8 (bind_world_some_2F a1 b0 b1)], .cells 58 [.fn 32 [.ptr 1 0]]]) := by
  refine Tr_tree (kok _ _ _ _ _ _) (E := E_bind_world_some_2) (L := noLoops) 60 9999 LoopsOk.none (bind_world_some_2R a1 b0 b1) (by kernel_rfl) (by kernel_rfl) (by kernel_rfl) ?_
  unfold bind_world_some_2R
  exact ⟨trivial, .inl (by kernel_rfl), by kernel_rfl⟩
noncomputable def bind_world_some_2_fact : Fact Tryd.prog := factOf 35 Tryd.f35 (by kernel_rfl) rfl (by kernel_rfl) [.agg [.vec 0], .c (.int .u8), .fn 32 [.ptr 1 0]] [.vec true .obj, .st 31 .obj] false (fun t u => .fn 66 [.ptr 2 0, .ptr 3 0, .ptr 4 0]) (fun t u => [.vec true ⟨.obj, u.1⟩, .cells 31 (oc u.2.1), .cells 61 [.vec 0], .cells 27 [.int .u8 (bind_world_some_2F t.2.1 u.1 u.2.1)], .cells 58 [.fn 32 [.ptr 1 0]]]) (fun t u => [])
  (nofun) (fun t u => by kernel_rfl) (fun t u => by kernel_rfl) (fun t u h => bind_world_some_2F_tr t.2.1 u.1 u.2.1 )
noncomputable def E_bind_Claim_1 : Env := envOf (P := Tryd.prog) [] [] [] ckf
def bind_Claim_1F (a0 : XObj) (b0 : XObj) : Bool :=
  decide (a0.claim = b0.name)
def bind_Claim_1R (a0 : XObj) (b0 : XObj) : RT :=
  (.leaf .ret ⟨slots 9 [(3, .bool (decide (a0.claim = b0.name)))], [.cells 31 (oc b0)]⟩ [])
theorem bind_Claim_1F_tr (a0 : XObj) (b0 : XObj)  : Tr Tryd.prog 1 (bodyOf Tryd.f32) (fnBegins Tryd.f32 [.agg (oc a0), .ptr 0 0] [.cells 31 (oc b0)]) (fnEnds Tryd.prog Tryd.f32 (.bool (bind_Claim_1F a0 b0)) [.cells 31 (oc b0)]) := by
  refine Tr_tree (kok _ _ _ _ _ _) (E := E_bind_Claim_1) (L := noLoops) 60 9999 LoopsOk.none (bind_Claim_1R a0 b0) (by kernel_rfl) (by kernel_rfl) (by kernel_rfl) ?_
  unfold bind_Claim_1R
  exact ⟨trivial, .inl (by kernel_rfl), by kernel_rfl⟩
noncomputable def bind_Claim_1_fact : Fact Tryd.prog := factOf 32 Tryd.f32 (by kernel_rfl) rfl (by kernel_rfl) [.st .obj, .c (.ptr 0 0)] [.st 31 .obj] true (fun t u => .bool (bind_Claim_1F t.1 u.1)) (fun t u => HPL.enc _ u) (fun t u => [])
  (fun _ _ _ => rfl) (fun t u => by kernel_rfl) (fun t u => by kernel_rfl) (fun t u h => bind_Claim_1F_tr t.1 u.1 )
noncomputable def E_bind_world_any_r : Env := envOf (P := Tryd.prog) [] [] [] ckf
def bind_world_any_rQ (a1 : XObj) (b1 : Bool) : RT :=
  (.leaf .normal ⟨slots 12 [(6, .ptr 1 0)], [.dead, .cells 4 [.bool b1]]⟩ [])
def bind_world_any_rR (a1 : XObj) (b1 : Bool) : RT :=
  (.leaf .ret ⟨slots 12 [], [.dead, .cells 4 [.bool true]]⟩ [])
theorem bind_world_any_r_tr (a1 : XObj) (b1 : Bool)  : Tr Tryd.prog 2 (Globs.site 1).2.1 ⟨slots 12 [(6, .ptr 1 0), (11, .agg (oc a1))], .dead :: [.cells 4 [.bool b1]]⟩ (fun e s1 => e = .normal ∧ Tr Tryd.prog 2 (Globs.site 1).2.2 s1 (rdEnds (true) .ret [.cells 4 [.bool true]] .ret [.cells 4 [.bool true]])) := by
  refine Tr_tree (kok _ _ _ _ _ _) (E := E_bind_world_any_r) (L := noLoops) 60 9999 LoopsOk.none (bind_world_any_rQ a1 b1) (by kernel_rfl) (by kernel_rfl) (by kernel_rfl) ?_
  unfold bind_world_any_rQ
  refine ⟨rfl, ?_⟩
  refine Tr_tree (kok _ _ _ _ _ _) (E := E_bind_world_any_r) (L := noLoops) 60 9999 LoopsOk.none (bind_world_any_rR a1 b1) (by kernel_rfl) (by kernel_rfl) (by kernel_rfl) ?_
  unfold bind_world_any_rR
  exact .inl ⟨rfl, rfl, by kernel_rfl⟩
noncomputable def bind_world_any_r_fact : FactY Tryd.prog := factY 1 [.st .obj] (cpsOf 12 [(6, .ptr 1 0)]) [.cells 4 [.bool]] (fun t u => true) .ret .ret (some (.ret)) (some (.ret)) (fun t u => [.cells 4 [.bool true]]) (fun t u => [.cells 4 [.bool true]]) (fun t u => []) rfl rfl
  (fun t u => by kernel_rfl) (fun t => by kernel_rfl) (fun t u => by kernel_rfl) (fun t u => by kernel_rfl) (fun t u => by kernel_rfl) (fun t u => slots 12 [(6, .ptr 1 0), (11, .agg (oc t.2.1))]) (fun t u => by kernel_rfl) (fun t u h => bind_world_any_r_tr t.2.1 u.2.1.1 )
noncomputable def E_bind_world_any_it : Env := envOf (P := Tryd.prog) [bind_Claim_1_fact] [] [] ckf false [bind_world_any_r_fact]
def bind_world_any_itLF (a1 : Int) (b0 : List XObj) (b1 : XObj) : List XObj → Bool
  | [] => false
  | o :: r => cond (cond ((o.kind) == (bind_world_some_2F a1 b0 b1)) (bind_Claim_1F o b1) false)
    true
    (bind_world_any_itLF a1 b0 b1 r)
def bind_world_any_itLS (a1 : Int) (b0 : List XObj) (b1 : XObj) (i : Nat) : St :=
  ⟨slots 30 [(0, .yld 6), (2, .ptr 4 0), (3, .ptr 5 0), (8, .vec 0), (9, .int .i64 (b0.length : Int)), (10, .int .i64 (i : Int))], [.vec true ⟨.obj, b0⟩, .cells 31 (oc b1), .cells 4 [.bool false], .cells 61 [.vec 0], .cells 27 [.int .u8 (bind_world_some_2F a1 b0 b1)], .cells 58 [.fn 32 [.ptr 1 0]], .loop 1 (slots 12 [(6, .ptr 2 0)]) none]⟩
def bind_world_any_itLR (a1 : Int) (b0 : List XObj) (b1 : XObj) (i : Nat) : RT :=
  (.ask (decide ((i : Int) < (b0.length : Int)))
    (.need [0 ≤ (i : Int) ∧ (i : Int) < (b0.length : Int)]
      (.ask (cond (((b0.getD i default).kind) == (bind_world_some_2F a1 b0 b1)) (bind_Claim_1F (b0.getD i default) b1) false)
        (.ask true
          (.ask true
            (.leaf .ret ⟨slots 30 [], [.vec true ⟨.obj, b0⟩, .cells 31 (oc b1), .cells 4 [.bool true], .cells 61 [.vec 0], .cells 27 [.int .u8 (bind_world_some_2F a1 b0 b1)], .cells 58 [.fn 32 [.ptr 1 0]], .loop 1 (slots 12 [(6, .ptr 2 0)]) (some (.ret))]⟩ [])
            .fail)
          .fail)
        (.ask false
          .fail
          (.leaf .normal ⟨slots 30 [(0, .yld 6), (2, .ptr 4 0), (3, .ptr 5 0), (8, .vec 0), (9, .int .i64 (b0.length : Int)), (10, .int .i64 (IntKind.i64.wrap ((i : Int) + (1 : Int))))], [.vec true ⟨.obj, b0⟩, .cells 31 (oc b1), .cells 4 [.bool false], .cells 61 [.vec 0], .cells 27 [.int .u8 (bind_world_some_2F a1 b0 b1)], .cells 58 [.fn 32 [.ptr 1 0]], .loop 1 (slots 12 [(6, .ptr 2 0)]) none]⟩ []))))
    (.leaf (.exit 0) ⟨slots 30 [], [.vec true ⟨.obj, b0⟩, .cells 31 (oc b1), .cells 4 [.bool false], .cells 61 [.vec 0], .cells 27 [.int .u8 (bind_world_some_2F a1 b0 b1)], .cells 58 [.fn 32 [.ptr 1 0]], .loop 1 (slots 12 [(6, .ptr 2 0)]) none]⟩ []))
def bind_world_any_itLT (a1 : Int) (b0 : List XObj) (b1 : XObj) (i : Nat) : Tree :=
  .ask (bind_world_any_itLF a1 b0 b1 (b0.drop i)) (.leaf .ret ⟨slots 30 [], [.vec true ⟨.obj, b0⟩, .cells 31 (oc b1), .cells 4 [.bool true], .cells 61 [.vec 0], .cells 27 [.int .u8 (bind_world_some_2F a1 b0 b1)], .cells 58 [.fn 32 [.ptr 1 0]], .loop 1 (slots 12 [(6, .ptr 2 0)]) (some (.ret))]⟩) (.leaf (.exit 0) ⟨slots 30 [], [.vec true ⟨.obj, b0⟩, .cells 31 (oc b1), .cells 4 [.bool false], .cells 61 [.vec 0], .cells 27 [.int .u8 (bind_world_some_2F a1 b0 b1)], .cells 58 [.fn 32 [.ptr 1 0]], .loop 1 (slots 12 [(6, .ptr 2 0)]) none]⟩)
theorem bind_world_any_itL_loop (a1 : Int) (b0 : List XObj) (b1 : XObj) (hp0 : b0.length < 4611686018427387904) (hp1 : ∀ o ∈ b0, o.Fine) (hlen : b0.length < 4611686018427387904) (z : { z : Nat // z ≤ b0.length }) (Q : Exit → St → Prop) (h : (bind_world_any_itLT a1 b0 b1 z.1).All Q) : Tr Tryd.prog 7 (.loop (loopAt Tryd.f66 0)) (bind_world_any_itLS a1 b0 b1 z.1) Q := by
  refine Tr_loopT (kok _ _ _ _ _ _) (E := E_bind_world_any_it) (ι := { z : Nat // z ≤ b0.length }) 60 0 (fun _ => noLoops) (fun z => bind_world_any_itLS a1 b0 b1 z.1) (fun z => bind_world_any_itLT a1 b0 b1 z.1) (fun z => bind_world_any_itLR a1 b0 b1 z.1) (fun z => b0.length - z.1) (fun _ => LoopsOk.none) (fun z => by obtain ⟨i, hi⟩ := z; kernel_rfl) (fun z => by obtain ⟨i, hi⟩ := z; kernel_rfl) (fun z => by obtain ⟨i, hi⟩ := z; kernel_rfl) ?_ z Q h
  rintro ⟨i, hi⟩ Q hT
  replace hT : (bind_world_any_itLT a1 b0 b1 i).All Q := hT
  replace hi : i ≤ b0.length := hi
  show (bind_world_any_itLR a1 b0 b1 i).All _
  unfold bind_world_any_itLR
  refine ⟨fun h0 => ?_, fun h0 => ?_⟩
  · have hlt : i < b0.length := by simpa using h0
    have hd := drop_getD hlt
    have hw := wrap_succ (i := i) (by omega)
    refine ⟨need_cons (by first | assumption | omega | (intro; omega) | (simp only [decide_eq_true_eq, decide_eq_false_iff_not, Bool.cond_false_right, Bool.cond_true_right, Bool.cond_true_left, Bool.cond_false_left, Bool.and_eq_true, Bool.or_eq_true, Bool.not_eq_true', bytesLim, maxLen, List.length_cons, List.length_nil, List.length_append, byteSize_lit] at *; omega) | (intro; simp only [decide_eq_true_eq, decide_eq_false_iff_not, Bool.cond_false_right, Bool.cond_true_right, Bool.cond_true_left, Bool.cond_false_left, Bool.and_eq_true, Bool.or_eq_true, Bool.not_eq_true', bytesLim, maxLen, List.length_cons, List.length_nil, List.length_append, byteSize_lit] at *; omega)) (need_nil), ?_⟩
    refine ⟨fun h1 => ?_, fun h1 => ?_⟩
    · refine ⟨fun h2 => ?_, fun h2 => ?_⟩
      · refine ⟨fun h3 => ?_, fun h3 => ?_⟩
        · have hF : bind_world_any_itLF a1 b0 b1 (b0.drop i) = true := by rw [hd]; first | exact (cond_t h1 (cond_t h2 (cond_t h3 rfl))) | simp only [bind_world_any_itLF, h0, h1, h2, h3, cond_true, cond_false]
          unfold bind_world_any_itLT at hT
          rw [hF] at hT
          exact hT.1 rfl
        · exact absurd h3 (by simp)
      · exact absurd h2 (by simp)
    · refine ⟨fun h2 => ?_, fun h2 => ?_⟩
      · exact absurd h2 (by simp)
      · have hF : bind_world_any_itLF a1 b0 b1 (b0.drop i) = bind_world_any_itLF a1 b0 b1 (b0.drop (i + 1)) := by rw [hd]; first | exact (cond_f h1 (cond_f h2 rfl)) | simp only [bind_world_any_itLF, h0, h1, h2, cond_true, cond_false]
        refine ⟨⟨(i + 1), by show (i + 1) ≤ b0.length; omega⟩, by show b0.length - (i + 1) < b0.length - i; omega, ?_, ?_⟩
        · show _ = bind_world_any_itLS a1 b0 b1 (i + 1)
          unfold bind_world_any_itLS
          simp only [hw]
        · show (bind_world_any_itLT a1 b0 b1 (i + 1)).All Q
          unfold bind_world_any_itLT at hT ⊢
          rw [hF] at hT
          exact hT
  · have hge : ¬ i < b0.length := by simpa using h0
    have hd : b0.drop i = [] := List.drop_eq_nil_of_le (by omega)
    have hF : bind_world_any_itLF a1 b0 b1 (b0.drop i) = false := by rw [hd]; first | exact rfl | simp only [bind_world_any_itLF, h0, cond_true, cond_false]
    unfold bind_world_any_itLT at hT
    rw [hF] at hT
    exact hT.2 rfl
def bind_world_any_itS (a1 : Int) (b0 : List XObj) (b1 : XObj) : St :=
  ⟨slots 12 [(6, .ptr 2 0), (10, .fn 66 [.ptr 3 0, .ptr 4 0, .ptr 5 0])], [.vec true ⟨.obj, b0⟩, .cells 31 (oc b1), .cells 4 [.bool false], .cells 61 [.vec 0], .cells 27 [.int .u8 (bind_world_some_2F a1 b0 b1)], .cells 58 [.fn 32 [.ptr 1 0]]]⟩
def bind_world_any_itF (a1 : Int) (b0 : List XObj) (b1 : XObj) : Bool :=
  cond (bind_world_any_itLF a1 b0 b1 b0)
    true
    false
def bind_world_any_itR (a1 : Int) (b0 : List XObj) (b1 : XObj) : RT :=
  (.ask (bind_world_any_itLF a1 b0 b1 b0)
    (.leaf .ret ⟨slots 30 [], [.vec true ⟨.obj, b0⟩, .cells 31 (oc b1), .cells 4 [.bool true], .cells 61 [.vec 0], .cells 27 [.int .u8 (bind_world_some_2F a1 b0 b1)], .cells 58 [.fn 32 [.ptr 1 0]], .loop 1 (slots 12 [(6, .ptr 2 0)]) (some (.ret))]⟩ [])
    (.leaf .normal ⟨slots 30 [], [.vec true ⟨.obj, b0⟩, .cells 31 (oc b1), .cells 4 [.bool false], .cells 61 [.vec 0], .cells 27 [.int .u8 (bind_world_some_2F a1 b0 b1)], .cells 58 [.fn 32 [.ptr 1 0]], .loop 1 (slots 12 [(6, .ptr 2 0)]) none]⟩ []))
def bind_world_any_itT (a1 : Int) (b0 : List XObj) (b1 : XObj) : Tree :=
  .ask (bind_world_any_itF a1 b0 b1) (.leaf .ret ⟨slots 12 [(6, .ptr 2 0), (10, .fn 66 [.ptr 3 0, .ptr 4 0, .ptr 5 0])], [.vec true ⟨.obj, b0⟩, .cells 31 (oc b1), .cells 4 [.bool true], .cells 61 [.vec 0], .cells 27 [.int .u8 (bind_world_some_2F a1 b0 b1)], .cells 58 [.fn 32 [.ptr 1 0]], .dead]⟩) (.leaf .normal ⟨slots 12 [(6, .ptr 2 0), (10, .fn 66 [.ptr 3 0, .ptr 4 0, .ptr 5 0])], [.vec true ⟨.obj, b0⟩, .cells 31 (oc b1), .cells 4 [.bool false], .cells 61 [.vec 0], .cells 27 [.int .u8 (bind_world_some_2F a1 b0 b1)], .cells 58 [.fn 32 [.ptr 1 0]], .dead]⟩)
theorem bind_world_any_it_rg (a1 : Int) (b0 : List XObj) (b1 : XObj) (hp0 : b0.length < 4611686018427387904) (hp1 : ∀ o ∈ b0, o.Fine) (Q : Exit → St → Prop) (hT : (bind_world_any_itT a1 b0 b1).All Q) : Tr Tryd.prog 2 (loopAt Tryd.f31 0) (bind_world_any_itS a1 b0 b1) Q := by
  have hc : loopAt Tryd.f31 0 = .rangeFunc (.tmp 10) (Globs.site 1).1 (Globs.site 1).2.1 (Globs.site 1).2.2 := by kernel_rfl
  rw [hc]
  refine Tr_range (site := 1) (gf := 66) (fn := Tryd.f66) (c := bodyOf Tryd.f66) (cap := [.ptr 3 0, .ptr 4 0, .ptr 5 0]) 6 [6] (slots 12 [(6, .ptr 2 0)]) [.yld 6, .ptr 3 0, .ptr 4 0, .ptr 5 0] [.vec true ⟨.obj, b0⟩, .cells 31 (oc b1), .cells 4 [.bool false], .cells 61 [.vec 0], .cells 27 [.int .u8 (bind_world_some_2F a1 b0 b1)], .cells 58 [.fn 32 [.ptr 1 0]], .loop 1 (slots 12 [(6, .ptr 2 0)]) none] rfl (by kernel_rfl) (by kernel_rfl) rfl (by kernel_rfl) (by kernel_rfl) (by kernel_rfl) (by kernel_rfl) (by kernel_rfl) (by kernel_rfl) (by kernel_rfl) (by kernel_rfl) ?_
  refine Tr_tree (kok _ _ _ _ _ _) (E := E_bind_world_any_it) (L := (loopsOf [(0, bind_world_any_itLS a1 b0 b1 0, [], bind_world_any_itLT a1 b0 b1 0)])) 60 9999 (LoopsOk.one (g := loopAt Tryd.f66 0) (b := 0) (by kernel_rfl) (by kernel_rfl) (by kernel_rfl) (by kernel_rfl) (fun Q h => bind_world_any_itL_loop a1 b0 b1 hp0 hp1 (by first | assumption | omega | exact of_short _ (by first | assumption | omega | exact Nat.le_trans (w12_few_len _) (by decide)) | exact r12_Uniq_short _ (by first | assumption | omega | exact Nat.le_trans (w12_few_len _) (by decide)) | exact Nat.lt_of_le_of_lt (w12_few_len _) (by decide) | decide | (simp only [List.length_append, List.length_cons, List.length_nil]; have := w12_few_len a0; omega)) ⟨0, by first | exact Nat.zero_le _ | (show 0 ≤ b0.length; omega) | (show 0 ≤ b0.length; exact ⟨Nat.zero_le _, by assumption⟩) | (show 0 ≤ b0.length; simp)⟩ Q h)) (bind_world_any_itR a1 b0 b1) (by kernel_rfl) (by kernel_rfl) (by kernel_rfl) ?_
  unfold bind_world_any_itR
  refine ⟨fun h0 => ?_, fun h0 => ?_⟩
  · have hF : bind_world_any_itF a1 b0 b1 = true := by first | exact (cond_t h0 rfl) | simp only [bind_world_any_itF, h0, cond_true, cond_false]
    unfold bind_world_any_itT at hT
    rw [hF] at hT
    exact ⟨⟨trivial, .tup [], by kernel_rfl⟩, (some (.ret)), [.vec true ⟨.obj, b0⟩, .cells 31 (oc b1), .cells 4 [.bool true], .cells 61 [.vec 0], .cells 27 [.int .u8 (bind_world_some_2F a1 b0 b1)], .cells 58 [.fn 32 [.ptr 1 0]], .dead], by kernel_rfl, rfl, by kernel_rfl, by kernel_rfl, by kernel_rfl, by kernel_rfl, hT.1 rfl⟩
  · have hF : bind_world_any_itF a1 b0 b1 = false := by first | exact (cond_f h0 rfl) | simp only [bind_world_any_itF, h0, cond_true, cond_false]
    unfold bind_world_any_itT at hT
    rw [hF] at hT
    exact ⟨⟨trivial, .tup [], by kernel_rfl⟩, none, [.vec true ⟨.obj, b0⟩, .cells 31 (oc b1), .cells 4 [.bool false], .cells 61 [.vec 0], .cells 27 [.int .u8 (bind_world_some_2F a1 b0 b1)], .cells 58 [.fn 32 [.ptr 1 0]], .dead], by kernel_rfl, rfl, by kernel_rfl, by kernel_rfl, by kernel_rfl, by kernel_rfl, hT.2 rfl⟩
noncomputable def E_bind_world_any : Env := envOf (P := Tryd.prog) [bind_world_some_2_fact] [] [] ckf
def bind_world_anyF (a1 : Int) (b0 : List XObj) (b1 : XObj) : Bool :=
  cond (bind_world_any_itF a1 b0 b1)
    true
    false
def bind_world_anyR (a1 : Int) (b0 : List XObj) (b1 : XObj) : RT :=
  (.ask (bind_world_any_itF a1 b0 b1)
    (.leaf .ret ⟨slots 12 [(6, .ptr 2 0)], [.vec true ⟨.obj, b0⟩, .cells 31 (oc b1), .cells 4 [.bool true]]⟩ [])
    (.leaf .ret ⟨slots 12 [(6, .ptr 2 0)], [.vec true ⟨.obj, b0⟩, .cells 31 (oc b1), .cells 4 [.bool false]]⟩ []))
theorem bind_world_anyF_tr (a1 : Int) (b0 : List XObj) (b1 : XObj) (hp0 : b0.length < 4611686018427387904) (hp1 : ∀ o ∈ b0, o.Fine) : Tr Tryd.prog 2 (bodyOf Tryd.f31) (fnBegins Tryd.f31 [.agg [.vec 0], .int .u8 a1, .fn 32 [.ptr 1 0]] [.vec true ⟨.obj, b0⟩, .cells 31 (oc b1)]) (fnEnds Tryd.prog Tryd.f31 (.bool (bind_world_anyF a1 b0 b1)) [.vec true ⟨.obj, b0⟩, .cells 31 (oc b1)]) := by
  refine Tr_tree (kok _ _ _ _ _ _) (E := E_bind_world_any) (L := (loopsOf [(0, bind_world_any_itS a1 b0 b1, [0, 1, 3, 4, 5, 6], bind_world_any_itT a1 b0 b1)])) 60 9999 (LoopsOk.oneR (g := loopAt Tryd.f31 0) (b := 0) (by kernel_rfl) (by kernel_rfl) (by kernel_rfl) (by kernel_rfl) (fun Q h => bind_world_any_it_rg a1 b0 b1 hp0 hp1 Q h)) (bind_world_anyR a1 b0 b1) (by kernel_rfl) (by kernel_rfl) (by kernel_rfl) ?_
  unfold bind_world_anyR
  refine ⟨fun h0 => ?_, fun h0 => ?_⟩
  · have hF : bind_world_anyF a1 b0 b1 = true := by first | exact (cond_t h0 rfl) | simp only [bind_world_anyF, h0, cond_true, cond_false]
    exact ⟨trivial, .inl (by first | (rw [hF]; kernel_rfl) | kernel_rfl), by first | (rw [hF]; kernel_rfl) | kernel_rfl⟩
  · have hF : bind_world_anyF a1 b0 b1 = false := by first | exact (cond_f h0 rfl) | simp only [bind_world_anyF, h0, cond_true, cond_false]
    exact ⟨trivial, .inl (by first | (rw [hF]; kernel_rfl) | kernel_rfl), by first | (rw [hF]; kernel_rfl) | kernel_rfl⟩
noncomputable def bind_world_any_fact : Fact Tryd.prog := factOf 31 Tryd.f31 (by kernel_rfl) rfl (by kernel_rfl) [.agg [.vec 0], .c (.int .u8), .fn 32 [.ptr 1 0]] [.vec true .obj, .st 31 .obj] true (fun t u => .bool (bind_world_anyF t.2.1 u.1 u.2.1)) (fun t u => HPL.enc _ u) (fun t u => [u.1.length < 4611686018427387904, ∀ o ∈ u.1, o.Fine])
  (fun _ _ _ => rfl) (fun t u => by kernel_rfl) (fun t u => by kernel_rfl) (fun t u h => bind_world_anyF_tr t.2.1 u.1 u.2.1 (h _ List.mem_cons_self) (h _ (List.mem_cons_of_mem _ List.mem_cons_self)))
noncomputable def E_bind_world_some_3 : Env := envOf (P := Tryd.prog) [] [] [] ckf
def bind_world_some_3F (a1 : Int) (b0 : List XObj) (b1 : XObj) : Int :=
  a1
def bind_world_some_3R (a1 : Int) (b0 : List XObj) (b1 : XObj) : RT :=
  (.leaf .ret ⟨slots 8 [(6, .fn 66 [.ptr 2 0, .ptr 3 0, .ptr 4 0])], [.vec true ⟨.obj, b0⟩, .cells 31 (oc b1), .cells 61 [.vec 0], .cells 27 [.int .u8 a1], .cells 58 [.fn 33 [.ptr 1 0]]]⟩ [])
theorem bind_world_some_3F_tr (a1 : Int) (b0 : List XObj) (b1 : XObj)  : Tr Tryd.prog 2 (bodyOf Tryd.f35) (fnBegins Tryd.f35 [.agg [.vec 0], .int .u8 a1, .fn 33 [.ptr 1 0]] [.vec true ⟨.obj, b0⟩, .cells 31 (oc b1)]) (fnEnds Tryd.prog Tryd.f35 (.fn 66 [.ptr 2 0, .ptr 3 0, .ptr 4 0]) [.vec true ⟨.obj, b0⟩, .cells 31 (oc b1), .cells 61 [.vec 0], .cells 27 [.int .u8 (bind_world_some_3F a1 b0 b1)], .cells 58 [.fn 33 [.ptr 1 0]]]) := by
  refine Tr_tree (kok _ _ _ _ _ _) (E := E_bind_world_some_3) (L := noLoops) 60 9999 LoopsOk.none (bind_world_some_3R a1 b0 b1) (by kernel_rfl) (by kernel_rfl) (by kernel_rfl) ?_
  unfold bind_world_some_3R
  exact ⟨trivial, .inl (by kernel_rfl), by kernel_rfl⟩
noncomputable def bind_world_some_3_fact : Fact Tryd.prog := factOf 35 Tryd.f35 (by kernel_rfl) rfl (by kernel_rfl) [.agg [.vec 0], .c (.int .u8), .fn 33 [.ptr 1 0]] [.vec true .obj, .st 31 .obj] false (fun t u => .fn 66 [.ptr 2 0, .ptr 3 0, .ptr 4 0]) (fun t u => [.vec true ⟨.obj, u.1⟩, .cells 31 (oc u.2.1), .cells 61 [.vec 0], .cells 27 [.int .u8 (bind_world_some_3F t.2.1 u.1 u.2.1)], .cells 58 [.fn 33 [.ptr 1 0]]]) (fun t u => [])
  (nofun) (fun t u => by kernel_rfl) (fun t u => by kernel_rfl) (fun t u h => bind_world_some_3F_tr t.2.1 u.1 u.2.1 )
noncomputable def E_bind_Claim_2 : Env := envOf (P := Tryd.prog) [] [] [] ckf
def bind_Claim_2F (a0 : XObj) (b0 : XObj) : Bool :=
  decide (a0.volume = b0.volume)
def bind_Claim_2R (a0 : XObj) (b0 : XObj) : RT :=
  (.leaf .ret ⟨slots 9 [(3, .bool (decide (a0.volume = b0.volume)))], [.cells 31 (oc b0)]⟩ [])
theorem bind_Claim_2F_tr (a0 : XObj) (b0 : XObj)  : Tr Tryd.prog 1 (bodyOf Tryd.f33) (fnBegins Tryd.f33 [.agg (oc a0), .ptr 0 0] [.cells 31 (oc b0)]) (fnEnds Tryd.prog Tryd.f33 (.bool (bind_Claim_2F a0 b0)) [.cells 31 (oc b0)]) := by
  refine Tr_tree (kok _ _ _ _ _ _) (E := E_bind_Claim_2) (L := noLoops) 60 9999 LoopsOk.none (bind_Claim_2R a0 b0) (by kernel_rfl) (by kernel_rfl) (by kernel_rfl) ?_
  unfold bind_Claim_2R
  exact ⟨trivial, .inl (by kernel_rfl), by kernel_rfl⟩
noncomputable def bind_Claim_2_fact : Fact Tryd.prog := factOf 33 Tryd.f33 (by kernel_rfl) rfl (by kernel_rfl) [.st .obj, .c (.ptr 0 0)] [.st 31 .obj] true (fun t u => .bool (bind_Claim_2F t.1 u.1)) (fun t u => HPL.enc _ u) (fun t u => [])
  (fun _ _ _ => rfl) (fun t u => by kernel_rfl) (fun t u => by kernel_rfl) (fun t u h => bind_Claim_2F_tr t.1 u.1 )
noncomputable def E_bind_world_any_2_it : Env := envOf (P := Tryd.prog) [bind_Claim_2_fact] [] [] ckf false [bind_world_any_r_fact]
def bind_world_any_2_itLF (a1 : Int) (b0 : List XObj) (b1 : XObj) : List XObj → Bool
  | [] => false
  | o :: r => cond (cond ((o.kind) == (bind_world_some_3F a1 b0 b1)) (bind_Claim_2F o b1) false)
    true
    (bind_world_any_2_itLF a1 b0 b1 r)
def bind_world_any_2_itLS (a1 : Int) (b0 : List XObj) (b1 : XObj) (i : Nat) : St :=
  ⟨slots 30 [(0, .yld 6), (2, .ptr 4 0), (3, .ptr 5 0), (8, .vec 0), (9, .int .i64 (b0.length : Int)), (10, .int .i64 (i : Int))], [.vec true ⟨.obj, b0⟩, .cells 31 (oc b1), .cells 4 [.bool false], .cells 61 [.vec 0], .cells 27 [.int .u8 (bind_world_some_3F a1 b0 b1)], .cells 58 [.fn 33 [.ptr 1 0]], .loop 1 (slots 12 [(6, .ptr 2 0)]) none]⟩
def bind_world_any_2_itLR (a1 : Int) (b0 : List XObj) (b1 : XObj) (i : Nat) : RT :=
  (.ask (decide ((i : Int) < (b0.length : Int)))
    (.need [0 ≤ (i : Int) ∧ (i : Int) < (b0.length : Int)]
      (.ask (cond (((b0.getD i default).kind) == (bind_world_some_3F a1 b0 b1)) (bind_Claim_2F (b0.getD i default) b1) false)
        (.ask true
          (.ask true
            (.leaf .ret ⟨slots 30 [], [.vec true ⟨.obj, b0⟩, .cells 31 (oc b1), .cells 4 [.bool true], .cells 61 [.vec 0], .cells 27 [.int .u8 (bind_world_some_3F a1 b0 b1)], .cells 58 [.fn 33 [.ptr 1 0]], .loop 1 (slots 12 [(6, .ptr 2 0)]) (some (.ret))]⟩ [])
            .fail)
          .fail)
        (.ask false
          .fail
          (.leaf .normal ⟨slots 30 [(0, .yld 6), (2, .ptr 4 0), (3, .ptr 5 0), (8, .vec 0), (9, .int .i64 (b0.length : Int)), (10, .int .i64 (IntKind.i64.wrap ((i : Int) + (1 : Int))))], [.vec true ⟨.obj, b0⟩, .cells 31 (oc b1), .cells 4 [.bool false], .cells 61 [.vec 0], .cells 27 [.int .u8 (bind_world_some_3F a1 b0 b1)], .cells 58 [.fn 33 [.ptr 1 0]], .loop 1 (slots 12 [(6, .ptr 2 0)]) none]⟩ []))))
    (.leaf (.exit 0) ⟨slots 30 [], [.vec true ⟨.obj, b0⟩, .cells 31 (oc b1), .cells 4 [.bool false], .cells 61 [.vec 0], .cells 27 [.int .u8 (bind_world_some_3F a1 b0 b1)], .cells 58 [.fn 33 [.ptr 1 0]], .loop 1 (slots 12 [(6, .ptr 2 0)]) none]⟩ []))
def bind_world_any_2_itLT (a1 : Int) (b0 : List XObj) (b1 : XObj) (i : Nat) : Tree :=
  .ask (bind_world_any_2_itLF a1 b0 b1 (b0.drop i)) (.leaf .ret ⟨slots 30 [], [.vec true ⟨.obj, b0⟩, .cells 31 (oc b1), .cells 4 [.bool true], .cells 61 [.vec 0], .cells 27 [.int .u8 (bind_world_some_3F a1 b0 b1)], .cells 58 [.fn 33 [.ptr 1 0]], .loop 1 (slots 12 [(6, .ptr 2 0)]) (some (.ret))]⟩) (.leaf (.exit 0) ⟨slots 30 [], [.vec true ⟨.obj, b0⟩, .cells 31 (oc b1), .cells 4 [.bool false], .cells 61 [.vec 0], .cells 27 [.int .u8 (bind_world_some_3F a1 b0 b1)], .cells 58 [.fn 33 [.ptr 1 0]], .loop 1 (slots 12 [(6, .ptr 2 0)]) none]⟩)
theorem bind_world_any_2_itL_loop (a1 : Int) (b0 : List XObj) (b1 : XObj) (hp0 : b0.length < 4611686018427387904) (hp1 : ∀ o ∈ b0, o.Fine) (hlen : b0.length < 4611686018427387904) (z : { z : Nat // z ≤ b0.length }) (Q : Exit → St → Prop) (h : (bind_world_any_2_itLT a1 b0 b1 z.1).All Q) : Tr Tryd.prog 7 (.loop (loopAt Tryd.f66 0)) (bind_world_any_2_itLS a1 b0 b1 z.1) Q := by
  refine Tr_loopT (kok _ _ _ _ _ _) (E := E_bind_world_any_2_it) (ι := { z : Nat // z ≤ b0.length }) 60 0 (fun _ => noLoops) (fun z => bind_world_any_2_itLS a1 b0 b1 z.1) (fun z => bind_world_any_2_itLT a1 b0 b1 z.1) (fun z => bind_world_any_2_itLR a1 b0 b1 z.1) (fun z => b0.length - z.1) (fun _ => LoopsOk.none) (fun z => by obtain ⟨i, hi⟩ := z; kernel_rfl) (fun z => by obtain ⟨i, hi⟩ := z; kernel_rfl) (fun z => by obtain ⟨i, hi⟩ := z; kernel_rfl) ?_ z Q h
  rintro ⟨i, hi⟩ Q hT
  replace hT : (bind_world_any_2_itLT a1 b0 b1 i).All Q := hT
  replace hi : i ≤ b0.length := hi
  show (bind_world_any_2_itLR a1 b0 b1 i).All _
  unfold bind_world_any_2_itLR
  refine ⟨fun h0 => ?_, fun h0 => ?_⟩
  · have hlt : i < b0.length := by simpa using h0
    have hd := drop_getD hlt
    have hw := wrap_succ (i := i) (by omega)
    refine ⟨need_cons (by first | assumption | omega | (intro; omega) | (simp only [decide_eq_true_eq, decide_eq_false_iff_not, Bool.cond_false_right, Bool.cond_true_right, Bool.cond_true_left, Bool.cond_false_left, Bool.and_eq_true, Bool.or_eq_true, Bool.not_eq_true', bytesLim, maxLen, List.length_cons, List.length_nil, List.length_append, byteSize_lit] at *; omega) | (intro; simp only [decide_eq_true_eq, decide_eq_false_iff_not, Bool.cond_false_right, Bool.cond_true_right, Bool.cond_true_left, Bool.cond_false_left, Bool.and_eq_true, Bool.or_eq_true, Bool.not_eq_true', bytesLim, maxLen, List.length_cons, List.length_nil, List.length_append, byteSize_lit] at *; omega)) (need_nil), ?_⟩
    refine ⟨fun h1 => ?_, fun h1 => ?_⟩
    · refine ⟨fun h2 => ?_, fun h2 => ?_⟩
      · refine ⟨fun h3 => ?_, fun h3 => ?_⟩
        · have hF : bind_world_any_2_itLF a1 b0 b1 (b0.drop i) = true := by rw [hd]; first | exact (cond_t h1 (cond_t h2 (cond_t h3 rfl))) | simp only [bind_world_any_2_itLF, h0, h1, h2, h3, cond_true, cond_false]
          unfold bind_world_any_2_itLT at hT
          rw [hF] at hT
          exact hT.1 rfl
        · exact absurd h3 (by simp)
      · exact absurd h2 (by simp)
    · refine ⟨fun h2 => ?_, fun h2 => ?_⟩
      · exact absurd h2 (by simp)
      · have hF : bind_world_any_2_itLF a1 b0 b1 (b0.drop i) = bind_world_any_2_itLF a1 b0 b1 (b0.drop (i + 1)) := by rw [hd]; first | exact (cond_f h1 (cond_f h2 rfl)) | simp only [bind_world_any_2_itLF, h0, h1, h2, cond_true, cond_false]
        refine ⟨⟨(i + 1), by show (i + 1) ≤ b0.length; omega⟩, by show b0.length - (i + 1) < b0.length - i; omega, ?_, ?_⟩
        · show _ = bind_world_any_2_itLS a1 b0 b1 (i + 1)
          unfold bind_world_any_2_itLS
          simp only [hw]
        · show (bind_world_any_2_itLT a1 b0 b1 (i + 1)).All Q
          unfold bind_world_any_2_itLT at hT ⊢
          rw [hF] at hT
          exact hT
  · have hge : ¬ i < b0.length := by simpa using h0
    have hd : b0.drop i = [] := List.drop_eq_nil_of_le (by omega)
    have hF : bind_world_any_2_itLF a1 b0 b1 (b0.drop i) = false := by rw [hd]; first | exact rfl | simp only [bind_world_any_2_itLF, h0, cond_true, cond_false]
    unfold bind_world_any_2_itLT at hT
    rw [hF] at hT
    exact hT.2 rfl
def bind_world_any_2_itS (a1 : Int) (b0 : List XObj) (b1 : XObj) : St :=
  ⟨slots 12 [(6, .ptr 2 0), (10, .fn 66 [.ptr 3 0, .ptr 4 0, .ptr 5 0])], [.vec true ⟨.obj, b0⟩, .cells 31 (oc b1), .cells 4 [.bool false], .cells 61 [.vec 0], .cells 27 [.int .u8 (bind_world_some_3F a1 b0 b1)], .cells 58 [.fn 33 [.ptr 1 0]]]⟩
def bind_world_any_2_itF (a1 : Int) (b0 : List XObj) (b1 : XObj) : Bool :=
  cond (bind_world_any_2_itLF a1 b0 b1 b0)
    true
    false
def bind_world_any_2_itR (a1 : Int) (b0 : List XObj) (b1 : XObj) : RT :=
  (.ask (bind_world_any_2_itLF a1 b0 b1 b0)
    (.leaf .ret ⟨slots 30 [], [.vec true ⟨.obj, b0⟩, .cells 31 (oc b1), .cells 4 [.bool true], .cells 61 [.vec 0], .cells 27 [.int .u8 (bind_world_some_3F a1 b0 b1)], .cells 58 [.fn 33 [.ptr 1 0]], .loop 1 (slots 12 [(6, .ptr 2 0)]) (some (.ret))]⟩ [])
    (.leaf .normal ⟨slots 30 [], [.vec true ⟨.obj, b0⟩, .cells 31 (oc b1), .cells 4 [.bool false], .cells 61 [.vec 0], .cells 27 [.int .u8 (bind_world_some_3F a1 b0 b1)], .cells 58 [.fn 33 [.ptr 1 0]], .loop 1 (slots 12 [(6, .ptr 2 0)]) none]⟩ []))
def bind_world_any_2_itT (a1 : Int) (b0 : List XObj) (b1 : XObj) : Tree :=
  .ask (bind_world_any_2_itF a1 b0 b1) (.leaf .ret ⟨slots 12 [(6, .ptr 2 0), (10, .fn 66 [.ptr 3 0, .ptr 4 0, .ptr 5 0])], [.vec true ⟨.obj, b0⟩, .cells 31 (oc b1), .cells 4 [.bool true], .cells 61 [.vec 0], .cells 27 [.int .u8 (bind_world_some_3F a1 b0 b1)], .cells 58 [.fn 33 [.ptr 1 0]], .dead]⟩) (.leaf .normal ⟨slots 12 [(6, .ptr 2 0), (10, .fn 66 [.ptr 3 0, .ptr 4 0, .ptr 5 0])], [.vec true ⟨.obj, b0⟩, .cells 31 (oc b1), .cells 4 [.bool false], .cells 61 [.vec 0], .cells 27 [.int .u8 (bind_world_some_3F a1 b0 b1)], .cells 58 [.fn 33 [.ptr 1 0]], .dead]⟩)
theorem bind_world_any_2_it_rg (a1 : Int) (b0 : List XObj) (b1 : XObj) (hp0 : b0.length < 4611686018427387904) (hp1 : ∀ o ∈ b0, o.Fine) (Q : Exit → St → Prop) (hT : (bind_world_any_2_itT a1 b0 b1).All Q) : Tr Tryd.prog 2 (loopAt Tryd.f31 0) (bind_world_any_2_itS a1 b0 b1) Q := by
  have hc : loopAt Tryd.f31 0 = .rangeFunc (.tmp 10) (Globs.site 1).1 (Globs.site 1).2.1 (Globs.site 1).2.2 := by kernel_rfl
  rw [hc]
  refine Tr_range (site := 1) (gf := 66) (fn := Tryd.f66) (c := bodyOf Tryd.f66) (cap := [.ptr 3 0, .ptr 4 0, .ptr 5 0]) 6 [6] (slots 12 [(6, .ptr 2 0)]) [.yld 6, .ptr 3 0, .ptr 4 0, .ptr 5 0] [.vec true ⟨.obj, b0⟩, .cells 31 (oc b1), .cells 4 [.bool false], .cells 61 [.vec 0], .cells 27 [.int .u8 (bind_world_some_3F a1 b0 b1)], .cells 58 [.fn 33 [.ptr 1 0]], .loop 1 (slots 12 [(6, .ptr 2 0)]) none] rfl (by kernel_rfl) (by kernel_rfl) rfl (by kernel_rfl) (by kernel_rfl) (by kernel_rfl) (by kernel_rfl) (by kernel_rfl) (by kernel_rfl) (by kernel_rfl) (by kernel_rfl) ?_
  refine Tr_tree (kok _ _ _ _ _ _) (E := E_bind_world_any_2_it) (L := (loopsOf [(0, bind_world_any_2_itLS a1 b0 b1 0, [], bind_world_any_2_itLT a1 b0 b1 0)])) 60 9999 (LoopsOk.one (g := loopAt Tryd.f66 0) (b := 0) (by kernel_rfl) (by kernel_rfl) (by kernel_rfl) (by kernel_rfl) (fun Q h => bind_world_any_2_itL_loop a1 b0 b1 hp0 hp1 (by first | assumption | omega | exact of_short _ (by first | assumption | omega | exact Nat.le_trans (w12_few_len _) (by decide)) | exact r12_Uniq_short _ (by first | assumption | omega | exact Nat.le_trans (w12_few_len _) (by decide)) | exact Nat.lt_of_le_of_lt (w12_few_len _) (by decide) | decide | (simp only [List.length_append, List.length_cons, List.length_nil]; have := w12_few_len a0; omega)) ⟨0, by first | exact Nat.zero_le _ | (show 0 ≤ b0.length; omega) | (show 0 ≤ b0.length; exact ⟨Nat.zero_le _, by assumption⟩) | (show 0 ≤ b0.length; simp)⟩ Q h)) (bind_world_any_2_itR a1 b0 b1) (by kernel_rfl) (by kernel_rfl) (by kernel_rfl) ?_
  unfold bind_world_any_2_itR
  refine ⟨fun h0 => ?_, fun h0 => ?_⟩
  · have hF : bind_world_any_2_itF a1 b0 b1 = true := by first | exact (cond_t h0 rfl) | simp only [bind_world_any_2_itF, h0, cond_true, cond_false]
    unfold bind_world_any_2_itT at hT
    rw [hF] at hT
    exact ⟨⟨trivial, .tup [], by kernel_rfl⟩, (some (.ret)), [.vec true ⟨.obj, b0⟩, .cells 31 (oc b1), .cells 4 [.bool true], .cells 61 [.vec 0], .cells 27 [.int .u8 (bind_world_some_3F a1 b0 b1)], .cells 58 [.fn 33 [.ptr 1 0]], .dead], by kernel_rfl, rfl, by kernel_rfl, by kernel_rfl, by kernel_rfl, by kernel_rfl, hT.1 rfl⟩
  · have hF : bind_world_any_2_itF a1 b0 b1 = false := by first | exact (cond_f h0 rfl) | simp only [bind_world_any_2_itF, h0, cond_true, cond_false]
    unfold bind_world_any_2_itT at hT
    rw [hF] at hT
    exact ⟨⟨trivial, .tup [], by kernel_rfl⟩, none, [.vec true ⟨.obj, b0⟩, .cells 31 (oc b1), .cells 4 [.bool false], .cells 61 [.vec 0], .cells 27 [.int .u8 (bind_world_some_3F a1 b0 b1)], .cells 58 [.fn 33 [.ptr 1 0]], .dead], by kernel_rfl, rfl, by kernel_rfl, by kernel_rfl, by kernel_rfl, by kernel_rfl, hT.2 rfl⟩
noncomputable def E_bind_world_any_2 : Env := envOf (P := Tryd.prog) [bind_world_some_3_fact] [] [] ckf
def bind_world_any_2F (a1 : Int) (b0 : List XObj) (b1 : XObj) : Bool :=
  cond (bind_world_any_2_itF a1 b0 b1)
    true
    false
def bind_world_any_2R (a1 : Int) (b0 : List XObj) (b1 : XObj) : RT :=
  (.ask (bind_world_any_2_itF a1 b0 b1)
    (.leaf .ret ⟨slots 12 [(6, .ptr 2 0)], [.vec true ⟨.obj, b0⟩, .cells 31 (oc b1), .cells 4 [.bool true]]⟩ [])
    (.leaf .ret ⟨slots 12 [(6, .ptr 2 0)], [.vec true ⟨.obj, b0⟩, .cells 31 (oc b1), .cells 4 [.bool false]]⟩ []))
theorem bind_world_any_2F_tr (a1 : Int) (b0 : List XObj) (b1 : XObj) (hp0 : b0.length < 4611686018427387904) (hp1 : ∀ o ∈ b0, o.Fine) : Tr Tryd.prog 2 (bodyOf Tryd.f31) (fnBegins Tryd.f31 [.agg [.vec 0], .int .u8 a1, .fn 33 [.ptr 1 0]] [.vec true ⟨.obj, b0⟩, .cells 31 (oc b1)]) (fnEnds Tryd.prog Tryd.f31 (.bool (bind_world_any_2F a1 b0 b1)) [.vec true ⟨.obj, b0⟩, .cells 31 (oc b1)]) := by
  refine Tr_tree (kok _ _ _ _ _ _) (E := E_bind_world_any_2) (L := (loopsOf [(0, bind_world_any_2_itS a1 b0 b1, [0, 1, 3, 4, 5, 6], bind_world_any_2_itT a1 b0 b1)])) 60 9999 (LoopsOk.oneR (g := loopAt Tryd.f31 0) (b := 0) (by kernel_rfl) (by kernel_rfl) (by kernel_rfl) (by kernel_rfl) (fun Q h => bind_world_any_2_it_rg a1 b0 b1 hp0 hp1 Q h)) (bind_world_any_2R a1 b0 b1) (by kernel_rfl) (by kernel_rfl) (by kernel_rfl) ?_
  unfold bind_world_any_2R
  refine ⟨fun h0 => ?_, fun h0 => ?_⟩
  · have hF : bind_world_any_2F a1 b0 b1 = true := by first | exact (cond_t h0 rfl) | simp only [bind_world_any_2F, h0, cond_true, cond_false]
    exact ⟨trivial, .inl (by first | (rw [hF]; kernel_rfl) | kernel_rfl), by first | (rw [hF]; kernel_rfl) | kernel_rfl⟩
  · have hF : bind_world_any_2F a1 b0 b1 = false := by first | exact (cond_f h0 rfl) | simp only [bind_world_any_2F, h0, cond_true, cond_false]
    exact ⟨trivial, .inl (by first | (rw [hF]; kernel_rfl) | kernel_rfl), by first | (rw [hF]; kernel_rfl) | kernel_rfl⟩
noncomputable def bind_world_any_2_fact : Fact Tryd.prog := factOf 31 Tryd.f31 (by kernel_rfl) rfl (by kernel_rfl) [.agg [.vec 0], .c (.int .u8), .fn 33 [.ptr 1 0]] [.vec true .obj, .st 31 .obj] true (fun t u => .bool (bind_world_any_2F t.2.1 u.1 u.2.1)) (fun t u => HPL.enc _ u) (fun t u => [u.1.length < 4611686018427387904, ∀ o ∈ u.1, o.Fine])
  (fun _ _ _ => rfl) (fun t u => by kernel_rfl) (fun t u => by kernel_rfl) (fun t u h => bind_world_any_2F_tr t.2.1 u.1 u.2.1 (h _ List.mem_cons_self) (h _ (List.mem_cons_of_mem _ List.mem_cons_self)))
noncomputable def E_bind_remove : Env := envOf (P := Tryd.prog) [] [] [] ckf
def bind_removeF (a0 : XObj) : XAct :=
  (⟨(2 : Int), a0, (default : XCall)⟩ : XAct)
def bind_removeR (a0 : XObj) : RT :=
  (.leaf .ret ⟨slots 5 [(2, .ptr 0 0)], [.cells 36 [.int .u8 2, .int .u8 a0.kind, .str a0.name, .int .u64 a0.version, .int .u64 a0.born, .bool a0.deleting, .bool a0.hold, .str a0.cls, .int .i64 a0.size, .int .i64 a0.got, .int .u8 a0.mode, .bool a0.keep, .bool a0.wait, .str a0.zone, .str a0.node, .str a0.claim, .str a0.volume, .str a0.source, .int .u8 a0.phase, .int .u64 a0.num, .int .u64 a0.tag, .int .u8 0, .str (⟨#[]⟩ : ByteArray), .int .u64 0, .int .i64 0, .str (⟨#[]⟩ : ByteArray), .str (⟨#[]⟩ : ByteArray), .str (⟨#[]⟩ : ByteArray)]]⟩ [1])
theorem bind_removeF_tr (a0 : XObj)  : Tr Tryd.prog 0 (bodyOf Tryd.f34) (fnBegins Tryd.f34 [.agg (oc a0)] []) (fnEnds Tryd.prog Tryd.f34 (.agg (ac (bind_removeF a0))) []) := by
  refine Tr_tree (kok _ _ _ _ _ _) (E := E_bind_remove) (L := noLoops) 60 9999 LoopsOk.none (bind_removeR a0) (by kernel_rfl) (by kernel_rfl) (by kernel_rfl) ?_
  unfold bind_removeR
  exact ⟨trivial, .inl (by kernel_rfl), by kernel_rfl⟩
noncomputable def bind_remove_fact : Fact Tryd.prog := factOf 34 Tryd.f34 (by kernel_rfl) rfl (by kernel_rfl) [.st .obj] [] true (fun t u => .agg (ac (bind_removeF t.1))) (fun t u => []) (fun t u => [])
  (fun _ _ _ => rfl) (fun t u => by kernel_rfl) (fun t u => by kernel_rfl) (fun t u h => bind_removeF_tr t.1 )
noncomputable def E_bind_world_some_4 : Env := envOf (P := Tryd.prog) [] [] [] ckf
def bind_world_some_4F (a1 : Int) (b0 : List XObj) (b1 : XObj) : Int :=
  a1
def bind_world_some_4R (a1 : Int) (b0 : List XObj) (b1 : XObj) : RT :=
  (.leaf .ret ⟨slots 8 [(6, .fn 66 [.ptr 2 0, .ptr 3 0, .ptr 4 0])], [.vec true ⟨.obj, b0⟩, .cells 31 (oc b1), .cells 61 [.vec 0], .cells 27 [.int .u8 a1], .cells 58 [.fn 36 [.ptr 1 0]]]⟩ [])
theorem bind_world_some_4F_tr (a1 : Int) (b0 : List XObj) (b1 : XObj)  : Tr Tryd.prog 2 (bodyOf Tryd.f35) (fnBegins Tryd.f35 [.agg [.vec 0], .int .u8 a1, .fn 36 [.ptr 1 0]] [.vec true ⟨.obj, b0⟩, .cells 31 (oc b1)]) (fnEnds Tryd.prog Tryd.f35 (.fn 66 [.ptr 2 0, .ptr 3 0, .ptr 4 0]) [.vec true ⟨.obj, b0⟩, .cells 31 (oc b1), .cells 61 [.vec 0], .cells 27 [.int .u8 (bind_world_some_4F a1 b0 b1)], .cells 58 [.fn 36 [.ptr 1 0]]]) := by
  refine Tr_tree (kok _ _ _ _ _ _) (E := E_bind_world_some_4) (L := noLoops) 60 9999 LoopsOk.none (bind_world_some_4R a1 b0 b1) (by kernel_rfl) (by kernel_rfl) (by kernel_rfl) ?_
  unfold bind_world_some_4R
  exact ⟨trivial, .inl (by kernel_rfl), by kernel_rfl⟩
noncomputable def bind_world_some_4_fact : Fact Tryd.prog := factOf 35 Tryd.f35 (by kernel_rfl) rfl (by kernel_rfl) [.agg [.vec 0], .c (.int .u8), .fn 36 [.ptr 1 0]] [.vec true .obj, .st 31 .obj] false (fun t u => .fn 66 [.ptr 2 0, .ptr 3 0, .ptr 4 0]) (fun t u => [.vec true ⟨.obj, u.1⟩, .cells 31 (oc u.2.1), .cells 61 [.vec 0], .cells 27 [.int .u8 (bind_world_some_4F t.2.1 u.1 u.2.1)], .cells 58 [.fn 36 [.ptr 1 0]]]) (fun t u => [])
  (nofun) (fun t u => by kernel_rfl) (fun t u => by kernel_rfl) (fun t u h => bind_world_some_4F_tr t.2.1 u.1 u.2.1 )
noncomputable def E_bind_Claim_3 : Env := envOf (P := Tryd.prog) [bind_Ref_fact] [] [] ckf
def bind_Claim_3F (a0 : XObj) (b0 : XObj) : Bool :=
  decide (a0.claim = (bind_RefF b0))
def bind_Claim_3R (a0 : XObj) (b0 : XObj) : RT :=
  (.need [b0.Fine]
    (.leaf .ret ⟨slots 9 [(3, .bool (decide (a0.claim = (bind_RefF b0))))], [.cells 31 (oc b0)]⟩ []))
theorem bind_Claim_3F_tr (a0 : XObj) (b0 : XObj) (hp0 : b0.Fine) : Tr Tryd.prog 1 (bodyOf Tryd.f36) (fnBegins Tryd.f36 [.agg (oc a0), .ptr 0 0] [.cells 31 (oc b0)]) (fnEnds Tryd.prog Tryd.f36 (.bool (bind_Claim_3F a0 b0)) [.cells 31 (oc b0)]) := by
  refine Tr_tree (kok _ _ _ _ _ _) (E := E_bind_Claim_3) (L := noLoops) 60 9999 LoopsOk.none (bind_Claim_3R a0 b0) (by kernel_rfl) (by kernel_rfl) (by kernel_rfl) ?_
  unfold bind_Claim_3R
  refine ⟨need_cons (by first | assumption | exact hp0) (need_nil), ?_⟩
  exact ⟨trivial, .inl (by kernel_rfl), by kernel_rfl⟩
noncomputable def bind_Claim_3_fact : Fact Tryd.prog := factOf 36 Tryd.f36 (by kernel_rfl) rfl (by kernel_rfl) [.st .obj, .c (.ptr 0 0)] [.st 31 .obj] true (fun t u => .bool (bind_Claim_3F t.1 u.1)) (fun t u => HPL.enc _ u) (fun t u => [u.1.Fine])
  (fun _ _ _ => rfl) (fun t u => by kernel_rfl) (fun t u => by kernel_rfl) (fun t u h => bind_Claim_3F_tr t.1 u.1 (h _ List.mem_cons_self))
noncomputable def E_bind_Claim_r : Env := envOf (P := Tryd.prog) [] [] [] ckf
def bind_Claim_rF (a1 : XObj) (b1 : XObj) (b2 : Bool) : XObj × Bool :=
  cond (cond (!b2) true (strLess a1.name b1.name))
    (a1, true)
    (b1, b2)
def bind_Claim_rQ (a1 : XObj) (b1 : XObj) (b2 : Bool) : RT :=
  (.leaf .normal ⟨slots 102 [(11, .ptr 1 0), (12, .ptr 2 0), (13, .ptr 3 0)], [.dead, .cells 31 (oc b1), .cells 4 [.bool b2], .cells 31 (oc a1)]⟩ [])
def bind_Claim_rR (a1 : XObj) (b1 : XObj) (b2 : Bool) : RT :=
  (.ask (cond (!b2) true (strLess a1.name b1.name))
    (.leaf .normal ⟨slots 102 [], [.dead, .cells 31 (oc a1), .cells 4 [.bool true]]⟩ [])
    (.leaf .normal ⟨slots 102 [], [.dead, .cells 31 (oc b1), .cells 4 [.bool b2]]⟩ []))
theorem bind_Claim_r_tr (a1 : XObj) (b1 : XObj) (b2 : Bool)  : Tr Tryd.prog 3 (Globs.site 2).2.1 ⟨slots 102 [(11, .ptr 1 0), (12, .ptr 2 0), (53, .agg (oc a1))], .dead :: [.cells 31 (oc b1), .cells 4 [.bool b2]]⟩ (fun e s1 => e = .normal ∧ Tr Tryd.prog 3 (Globs.site 2).2.2 s1 (rdEnds (true) .normal [.cells 31 (oc ((bind_Claim_rF a1 b1 b2).1)), .cells 4 [.bool ((bind_Claim_rF a1 b1 b2).2)]] .normal [.cells 31 (oc ((bind_Claim_rF a1 b1 b2).1)), .cells 4 [.bool ((bind_Claim_rF a1 b1 b2).2)]])) := by
  refine Tr_tree (kok _ _ _ _ _ _) (E := E_bind_Claim_r) (L := noLoops) 60 9999 LoopsOk.none (bind_Claim_rQ a1 b1 b2) (by kernel_rfl) (by kernel_rfl) (by kernel_rfl) ?_
  unfold bind_Claim_rQ
  refine ⟨rfl, ?_⟩
  refine Tr_tree (kok _ _ _ _ _ _) (E := E_bind_Claim_r) (L := noLoops) 60 9999 LoopsOk.none (bind_Claim_rR a1 b1 b2) (by kernel_rfl) (by kernel_rfl) (by kernel_rfl) ?_
  unfold bind_Claim_rR
  refine ⟨fun h0 => ?_, fun h0 => ?_⟩
  · have hF : bind_Claim_rF a1 b1 b2 = (a1, true) := by first | exact (cond_t h0 rfl) | simp only [bind_Claim_rF, h0, cond_true, cond_false]
    exact .inl ⟨rfl, rfl, by first | (rw [hF]; kernel_rfl) | kernel_rfl⟩
  · have hF : bind_Claim_rF a1 b1 b2 = (b1, b2) := by first | exact (cond_f h0 rfl) | simp only [bind_Claim_rF, h0, cond_true, cond_false]
    exact .inl ⟨rfl, rfl, by first | (rw [hF]; kernel_rfl) | kernel_rfl⟩
noncomputable def bind_Claim_r_fact : FactY Tryd.prog := factY 2 [.st .obj] (cpsOf 102 [(11, .ptr 1 0), (12, .ptr 2 0)]) [.st 31 .obj, .cells 4 [.bool]] (fun t u => true) .normal .normal none none (fun t u => [.cells 31 (oc ((bind_Claim_rF t.2.1 u.2.1 u.2.2.1.1).1)), .cells 4 [.bool ((bind_Claim_rF t.2.1 u.2.1 u.2.2.1.1).2)]]) (fun t u => [.cells 31 (oc ((bind_Claim_rF t.2.1 u.2.1 u.2.2.1.1).1)), .cells 4 [.bool ((bind_Claim_rF t.2.1 u.2.1 u.2.2.1.1).2)]]) (fun t u => []) rfl rfl
  (fun t u => by kernel_rfl) (fun t => by kernel_rfl) (fun t u => by kernel_rfl) (fun t u => by kernel_rfl) (fun t u => by kernel_rfl) (fun t u => slots 102 [(11, .ptr 1 0), (12, .ptr 2 0), (53, .agg (oc t.2.1))]) (fun t u => by kernel_rfl) (fun t u h => bind_Claim_r_tr t.2.1 u.2.1 u.2.2.1.1 )
noncomputable def E_bind_Claim_it : Env := envOf (P := Tryd.prog) [bind_Claim_3_fact] [] [] ckf false [bind_Claim_r_fact]
def bind_Claim_itLF (a0 : List XObj) (a2 : ByteArray) : List XObj → XObj → Bool → XObj × Bool
  | [], v4, v5 => (v4, v5)
  | o :: r, v4, v5 => cond (cond ((o.kind) == (bind_world_some_4F (4 : Int) (bind_ofF a0) ((bind_world_getF (3 : Int) a2 (bind_ofF a0)).1))) (bind_Claim_3F o ((bind_world_getF (3 : Int) a2 (bind_ofF a0)).1)) false)
    (bind_Claim_itLF a0 a2 r ((bind_Claim_rF o v4 v5).1) ((bind_Claim_rF o v4 v5).2))
    (bind_Claim_itLF a0 a2 r v4 v5)
def bind_Claim_itLS (a0 : List XObj) (a1 : Int) (a2 : ByteArray) (i : Nat) (v4 : XObj) (v5 : Bool) : St :=
  ⟨slots 30 [(0, .yld 9), (2, .ptr 6 0), (3, .ptr 7 0), (8, .vec 8), (9, .int .i64 ((bind_ofF a0).length : Int)), (10, .int .i64 (i : Int))], [.cells 36 [.int .u8 0, .int .u8 0, .str (⟨#[]⟩ : ByteArray), .int .u64 0, .int .u64 0, .bool false, .bool false, .str (⟨#[]⟩ : ByteArray), .int .i64 0, .int .i64 0, .int .u8 0, .bool false, .bool false, .str (⟨#[]⟩ : ByteArray), .str (⟨#[]⟩ : ByteArray), .str (⟨#[]⟩ : ByteArray), .str (⟨#[]⟩ : ByteArray), .str (⟨#[]⟩ : ByteArray), .int .u8 0, .int .u64 0, .int .u64 0, .int .u8 0, .str (⟨#[]⟩ : ByteArray), .int .u64 0, .int .i64 0, .str (⟨#[]⟩ : ByteArray), .str (⟨#[]⟩ : ByteArray), .str (⟨#[]⟩ : ByteArray)], .cells 61 [.vec 8], .cells 31 (oc ((bind_world_getF (3 : Int) a2 (bind_ofF a0)).1)), .cells 31 (oc v4), .cells 4 [.bool v5], .cells 61 [.vec 8], .cells 27 [.int .u8 (bind_world_some_4F (4 : Int) (bind_ofF a0) ((bind_world_getF (3 : Int) a2 (bind_ofF a0)).1))], .cells 58 [.fn 36 [.ptr 2 0]], .vec true ⟨.obj, bind_ofF a0⟩, .loop 2 (slots 102 [(11, .ptr 3 0), (12, .ptr 4 0)]) none]⟩
def bind_Claim_itLR (a0 : List XObj) (a1 : Int) (a2 : ByteArray) (i : Nat) (v4 : XObj) (v5 : Bool) : RT :=
  (.ask (decide ((i : Int) < ((bind_ofF a0).length : Int)))
    (.need [0 ≤ (i : Int) ∧ (i : Int) < ((bind_ofF a0).length : Int)]
      (.need [(((((bind_ofF a0).getD i default).kind) == (bind_world_some_4F (4 : Int) (bind_ofF a0) ((bind_world_getF (3 : Int) a2 (bind_ofF a0)).1))) = true) → (((bind_world_getF (3 : Int) a2 (bind_ofF a0)).1).Fine)]
        (.ask (cond ((((bind_ofF a0).getD i default).kind) == (bind_world_some_4F (4 : Int) (bind_ofF a0) ((bind_world_getF (3 : Int) a2 (bind_ofF a0)).1))) (bind_Claim_3F ((bind_ofF a0).getD i default) ((bind_world_getF (3 : Int) a2 (bind_ofF a0)).1)) false)
          (.ask true
            (.ask false
              .fail
              (.leaf .normal ⟨slots 30 [(0, .yld 9), (2, .ptr 6 0), (3, .ptr 7 0), (8, .vec 8), (9, .int .i64 ((bind_ofF a0).length : Int)), (10, .int .i64 (IntKind.i64.wrap ((i : Int) + (1 : Int))))], [.cells 36 [.int .u8 0, .int .u8 0, .str (⟨#[]⟩ : ByteArray), .int .u64 0, .int .u64 0, .bool false, .bool false, .str (⟨#[]⟩ : ByteArray), .int .i64 0, .int .i64 0, .int .u8 0, .bool false, .bool false, .str (⟨#[]⟩ : ByteArray), .str (⟨#[]⟩ : ByteArray), .str (⟨#[]⟩ : ByteArray), .str (⟨#[]⟩ : ByteArray), .str (⟨#[]⟩ : ByteArray), .int .u8 0, .int .u64 0, .int .u64 0, .int .u8 0, .str (⟨#[]⟩ : ByteArray), .int .u64 0, .int .i64 0, .str (⟨#[]⟩ : ByteArray), .str (⟨#[]⟩ : ByteArray), .str (⟨#[]⟩ : ByteArray)], .cells 61 [.vec 8], .cells 31 (oc ((bind_world_getF (3 : Int) a2 (bind_ofF a0)).1)), .cells 31 (oc ((bind_Claim_rF ((bind_ofF a0).getD i default) v4 v5).1)), .cells 4 [.bool ((bind_Claim_rF ((bind_ofF a0).getD i default) v4 v5).2)], .cells 61 [.vec 8], .cells 27 [.int .u8 (bind_world_some_4F (4 : Int) (bind_ofF a0) ((bind_world_getF (3 : Int) a2 (bind_ofF a0)).1))], .cells 58 [.fn 36 [.ptr 2 0]], .vec true ⟨.obj, bind_ofF a0⟩, .loop 2 (slots 102 [(11, .ptr 3 0), (12, .ptr 4 0)]) none]⟩ []))
            .fail)
          (.ask false
            .fail
            (.leaf .normal ⟨slots 30 [(0, .yld 9), (2, .ptr 6 0), (3, .ptr 7 0), (8, .vec 8), (9, .int .i64 ((bind_ofF a0).length : Int)), (10, .int .i64 (IntKind.i64.wrap ((i : Int) + (1 : Int))))], [.cells 36 [.int .u8 0, .int .u8 0, .str (⟨#[]⟩ : ByteArray), .int .u64 0, .int .u64 0, .bool false, .bool false, .str (⟨#[]⟩ : ByteArray), .int .i64 0, .int .i64 0, .int .u8 0, .bool false, .bool false, .str (⟨#[]⟩ : ByteArray), .str (⟨#[]⟩ : ByteArray), .str (⟨#[]⟩ : ByteArray), .str (⟨#[]⟩ : ByteArray), .str (⟨#[]⟩ : ByteArray), .int .u8 0, .int .u64 0, .int .u64 0, .int .u8 0, .str (⟨#[]⟩ : ByteArray), .int .u64 0, .int .i64 0, .str (⟨#[]⟩ : ByteArray), .str (⟨#[]⟩ : ByteArray), .str (⟨#[]⟩ : ByteArray)], .cells 61 [.vec 8], .cells 31 (oc ((bind_world_getF (3 : Int) a2 (bind_ofF a0)).1)), .cells 31 (oc v4), .cells 4 [.bool v5], .cells 61 [.vec 8], .cells 27 [.int .u8 (bind_world_some_4F (4 : Int) (bind_ofF a0) ((bind_world_getF (3 : Int) a2 (bind_ofF a0)).1))], .cells 58 [.fn 36 [.ptr 2 0]], .vec true ⟨.obj, bind_ofF a0⟩, .loop 2 (slots 102 [(11, .ptr 3 0), (12, .ptr 4 0)]) none]⟩ [])))))
    (.leaf (.exit 0) ⟨slots 30 [], [.cells 36 [.int .u8 0, .int .u8 0, .str (⟨#[]⟩ : ByteArray), .int .u64 0, .int .u64 0, .bool false, .bool false, .str (⟨#[]⟩ : ByteArray), .int .i64 0, .int .i64 0, .int .u8 0, .bool false, .bool false, .str (⟨#[]⟩ : ByteArray), .str (⟨#[]⟩ : ByteArray), .str (⟨#[]⟩ : ByteArray), .str (⟨#[]⟩ : ByteArray), .str (⟨#[]⟩ : ByteArray), .int .u8 0, .int .u64 0, .int .u64 0, .int .u8 0, .str (⟨#[]⟩ : ByteArray), .int .u64 0, .int .i64 0, .str (⟨#[]⟩ : ByteArray), .str (⟨#[]⟩ : ByteArray), .str (⟨#[]⟩ : ByteArray)], .cells 61 [.vec 8], .cells 31 (oc ((bind_world_getF (3 : Int) a2 (bind_ofF a0)).1)), .cells 31 (oc v4), .cells 4 [.bool v5], .cells 61 [.vec 8], .cells 27 [.int .u8 (bind_world_some_4F (4 : Int) (bind_ofF a0) ((bind_world_getF (3 : Int) a2 (bind_ofF a0)).1))], .cells 58 [.fn 36 [.ptr 2 0]], .vec true ⟨.obj, bind_ofF a0⟩, .loop 2 (slots 102 [(11, .ptr 3 0), (12, .ptr 4 0)]) none]⟩ []))
def bind_Claim_itLT (a0 : List XObj) (a1 : Int) (a2 : ByteArray) (i : Nat) (v4 : XObj) (v5 : Bool) : Tree :=
  .leaf (.exit 0) ⟨slots 30 [], [.cells 36 [.int .u8 0, .int .u8 0, .str (⟨#[]⟩ : ByteArray), .int .u64 0, .int .u64 0, .bool false, .bool false, .str (⟨#[]⟩ : ByteArray), .int .i64 0, .int .i64 0, .int .u8 0, .bool false, .bool false, .str (⟨#[]⟩ : ByteArray), .str (⟨#[]⟩ : ByteArray), .str (⟨#[]⟩ : ByteArray), .str (⟨#[]⟩ : ByteArray), .str (⟨#[]⟩ : ByteArray), .int .u8 0, .int .u64 0, .int .u64 0, .int .u8 0, .str (⟨#[]⟩ : ByteArray), .int .u64 0, .int .i64 0, .str (⟨#[]⟩ : ByteArray), .str (⟨#[]⟩ : ByteArray), .str (⟨#[]⟩ : ByteArray)], .cells 61 [.vec 8], .cells 31 (oc ((bind_world_getF (3 : Int) a2 (bind_ofF a0)).1)), .cells 31 (oc ((bind_Claim_itLF a0 a2 ((bind_ofF a0).drop i) v4 v5).1)), .cells 4 [.bool ((bind_Claim_itLF a0 a2 ((bind_ofF a0).drop i) v4 v5).2)], .cells 61 [.vec 8], .cells 27 [.int .u8 (bind_world_some_4F (4 : Int) (bind_ofF a0) ((bind_world_getF (3 : Int) a2 (bind_ofF a0)).1))], .cells 58 [.fn 36 [.ptr 2 0]], .vec true ⟨.obj, bind_ofF a0⟩, .loop 2 (slots 102 [(11, .ptr 3 0), (12, .ptr 4 0)]) none]⟩
theorem bind_Claim_itL_loop (a0 : List XObj) (a1 : Int) (a2 : ByteArray) (hp0 : a0.length ≤ 64) (hp1 : ∀ o ∈ a0, o.Fine) (hlen : (bind_ofF a0).length < 4611686018427387904) (z : { z : Nat × XObj × Bool // z.1 ≤ (bind_ofF a0).length }) (Q : Exit → St → Prop) (h : (bind_Claim_itLT a0 a1 a2 z.1.1 z.1.2.1 z.1.2.2).All Q) : Tr Tryd.prog 10 (.loop (loopAt Tryd.f66 0)) (bind_Claim_itLS a0 a1 a2 z.1.1 z.1.2.1 z.1.2.2) Q := by
  refine Tr_loopT (kok _ _ _ _ _ _) (E := E_bind_Claim_it) (ι := { z : Nat × XObj × Bool // z.1 ≤ (bind_ofF a0).length }) 60 0 (fun _ => noLoops) (fun z => bind_Claim_itLS a0 a1 a2 z.1.1 z.1.2.1 z.1.2.2) (fun z => bind_Claim_itLT a0 a1 a2 z.1.1 z.1.2.1 z.1.2.2) (fun z => bind_Claim_itLR a0 a1 a2 z.1.1 z.1.2.1 z.1.2.2) (fun z => (bind_ofF a0).length - z.1.1) (fun _ => LoopsOk.none) (fun z => by obtain ⟨⟨i, v4, v5⟩, hi⟩ := z; kernel_rfl) (fun z => by obtain ⟨⟨i, v4, v5⟩, hi⟩ := z; kernel_rfl) (fun z => by obtain ⟨⟨i, v4, v5⟩, hi⟩ := z; kernel_rfl) ?_ z Q h
  rintro ⟨⟨i, v4, v5⟩, hi⟩ Q hT
  replace hT : (bind_Claim_itLT a0 a1 a2 i v4 v5).All Q := hT
  replace hi : i ≤ (bind_ofF a0).length := hi
  show (bind_Claim_itLR a0 a1 a2 i v4 v5).All _
  unfold bind_Claim_itLR
  refine ⟨fun h0 => ?_, fun h0 => ?_⟩
  · have hlt : i < (bind_ofF a0).length := by simpa using h0
    have hd := drop_getD hlt
    have hw := wrap_succ (i := i) (by omega)
    refine ⟨need_cons (by first | assumption | omega | (intro; omega) | (simp only [decide_eq_true_eq, decide_eq_false_iff_not, Bool.cond_false_right, Bool.cond_true_right, Bool.cond_true_left, Bool.cond_false_left, Bool.and_eq_true, Bool.or_eq_true, Bool.not_eq_true', bytesLim, maxLen, List.length_cons, List.length_nil, List.length_append, byteSize_lit] at *; omega) | (intro; simp only [decide_eq_true_eq, decide_eq_false_iff_not, Bool.cond_false_right, Bool.cond_true_right, Bool.cond_true_left, Bool.cond_false_left, Bool.and_eq_true, Bool.or_eq_true, Bool.not_eq_true', bytesLim, maxLen, List.length_cons, List.length_nil, List.length_append, byteSize_lit] at *; omega)) (need_nil), ?_⟩
    refine ⟨need_cons (by (try refine fun (_ : _ = _) => ?_); first | assumption | exact get_fine _ _ _ (by first | assumption | exact of_fine _ (by first | assumption | exact w12_few_fine (by assumption)) | exact r12_Uniq_fine _ (by first | assumption | exact w12_few_fine (by assumption)) | exact w12_few_fine (by assumption)) | exact r12_Get_fine _ _ _ (by first | assumption | exact of_fine _ (by first | assumption | exact w12_few_fine (by assumption)) | exact r12_Uniq_fine _ (by first | assumption | exact w12_few_fine (by assumption)) | exact w12_few_fine (by assumption)) | exact fine_default | exact hp1 _ (gD_mem (by assumption)) | exact r12_Uniq_fine _ (by assumption) _ (gD_mem (by assumption)) | exact of_fine _ (by assumption) _ (gD_mem (by assumption)) | exact w12_few_fine (by assumption) _ (gD_mem (by assumption)) | exact hp1 | exact hp0 | (refine ⟨?_, ?_, ?_, ?_, ?_, ?_, ?_, ?_, ?_⟩ <;> first | assumption | decide | (simp only [size_mk]; decide))) (need_nil), ?_⟩
    refine ⟨fun h1 => ?_, fun h1 => ?_⟩
    · refine ⟨fun h2 => ?_, fun h2 => ?_⟩
      · refine ⟨fun h3 => ?_, fun h3 => ?_⟩
        · exact absurd h3 (by simp)
        · have hF : bind_Claim_itLF a0 a2 ((bind_ofF a0).drop i) v4 v5 = bind_Claim_itLF a0 a2 ((bind_ofF a0).drop (i + 1)) ((bind_Claim_rF ((bind_ofF a0).getD i default) v4 v5).1) ((bind_Claim_rF ((bind_ofF a0).getD i default) v4 v5).2) := by rw [hd]; first | exact (cond_t h1 (cond_t h2 (cond_f h3 rfl))) | simp only [bind_Claim_itLF, h0, h1, h2, h3, cond_true, cond_false]
          refine ⟨⟨((i + 1), ((bind_Claim_rF ((bind_ofF a0).getD i default) v4 v5).1), (bind_Claim_rF ((bind_ofF a0).getD i default) v4 v5).2), by show (i + 1) ≤ (bind_ofF a0).length; omega⟩, by show (bind_ofF a0).length - (i + 1) < (bind_ofF a0).length - i; omega, ?_, ?_⟩
          · show _ = bind_Claim_itLS a0 a1 a2 (i + 1) ((bind_Claim_rF ((bind_ofF a0).getD i default) v4 v5).1) ((bind_Claim_rF ((bind_ofF a0).getD i default) v4 v5).2)
            unfold bind_Claim_itLS
            simp only [hw]
          · show (bind_Claim_itLT a0 a1 a2 (i + 1) ((bind_Claim_rF ((bind_ofF a0).getD i default) v4 v5).1) ((bind_Claim_rF ((bind_ofF a0).getD i default) v4 v5).2)).All Q
            unfold bind_Claim_itLT at hT ⊢
            rw [hF] at hT
            exact hT
      · exact absurd h2 (by simp)
    · refine ⟨fun h2 => ?_, fun h2 => ?_⟩
      · exact absurd h2 (by simp)
      · have hF : bind_Claim_itLF a0 a2 ((bind_ofF a0).drop i) v4 v5 = bind_Claim_itLF a0 a2 ((bind_ofF a0).drop (i + 1)) v4 v5 := by rw [hd]; first | exact (cond_f h1 (cond_f h2 rfl)) | simp only [bind_Claim_itLF, h0, h1, h2, cond_true, cond_false]
        refine ⟨⟨((i + 1), v4, v5), by show (i + 1) ≤ (bind_ofF a0).length; omega⟩, by show (bind_ofF a0).length - (i + 1) < (bind_ofF a0).length - i; omega, ?_, ?_⟩
        · show _ = bind_Claim_itLS a0 a1 a2 (i + 1) v4 v5
          unfold bind_Claim_itLS
          simp only [hw]
        · show (bind_Claim_itLT a0 a1 a2 (i + 1) v4 v5).All Q
          unfold bind_Claim_itLT at hT ⊢
          rw [hF] at hT
          exact hT
  · have hge : ¬ i < (bind_ofF a0).length := by simpa using h0
    have hd : (bind_ofF a0).drop i = [] := List.drop_eq_nil_of_le (by omega)
    have hF : bind_Claim_itLF a0 a2 ((bind_ofF a0).drop i) v4 v5 = (v4, v5) := by rw [hd]; first | exact rfl | simp only [bind_Claim_itLF, h0, cond_true, cond_false]
    unfold bind_Claim_itLT at hT
    rw [hF] at hT
    exact hT
def bind_Claim_itS (a0 : List XObj) (a1 : Int) (a2 : ByteArray) : St :=
  ⟨slots 102 [(1, .int .u64 a1), (6, .ptr 0 0), (7, .ptr 1 0), (8, .ptr 2 0), (11, .ptr 3 0), (12, .ptr 4 0), (52, .fn 66 [.ptr 5 0, .ptr 6 0, .ptr 7 0])], [.cells 36 [.int .u8 0, .int .u8 0, .str (⟨#[]⟩ : ByteArray), .int .u64 0, .int .u64 0, .bool false, .bool false, .str (⟨#[]⟩ : ByteArray), .int .i64 0, .int .i64 0, .int .u8 0, .bool false, .bool false, .str (⟨#[]⟩ : ByteArray), .str (⟨#[]⟩ : ByteArray), .str (⟨#[]⟩ : ByteArray), .str (⟨#[]⟩ : ByteArray), .str (⟨#[]⟩ : ByteArray), .int .u8 0, .int .u64 0, .int .u64 0, .int .u8 0, .str (⟨#[]⟩ : ByteArray), .int .u64 0, .int .i64 0, .str (⟨#[]⟩ : ByteArray), .str (⟨#[]⟩ : ByteArray), .str (⟨#[]⟩ : ByteArray)], .cells 61 [.vec 8], .cells 31 (oc ((bind_world_getF (3 : Int) a2 (bind_ofF a0)).1)), .cells 31 [.int .u8 0, .str (⟨#[]⟩ : ByteArray), .int .u64 0, .int .u64 0, .bool false, .bool false, .str (⟨#[]⟩ : ByteArray), .int .i64 0, .int .i64 0, .int .u8 0, .bool false, .bool false, .str (⟨#[]⟩ : ByteArray), .str (⟨#[]⟩ : ByteArray), .str (⟨#[]⟩ : ByteArray), .str (⟨#[]⟩ : ByteArray), .str (⟨#[]⟩ : ByteArray), .int .u8 0, .int .u64 0, .int .u64 0], .cells 4 [.bool false], .cells 61 [.vec 8], .cells 27 [.int .u8 (bind_world_some_4F (4 : Int) (bind_ofF a0) ((bind_world_getF (3 : Int) a2 (bind_ofF a0)).1))], .cells 58 [.fn 36 [.ptr 2 0]], .vec true ⟨.obj, bind_ofF a0⟩]⟩
def bind_Claim_itR (a0 : List XObj) (a1 : Int) (a2 : ByteArray) : RT :=
  (.leaf .normal ⟨slots 30 [], [.cells 36 [.int .u8 0, .int .u8 0, .str (⟨#[]⟩ : ByteArray), .int .u64 0, .int .u64 0, .bool false, .bool false, .str (⟨#[]⟩ : ByteArray), .int .i64 0, .int .i64 0, .int .u8 0, .bool false, .bool false, .str (⟨#[]⟩ : ByteArray), .str (⟨#[]⟩ : ByteArray), .str (⟨#[]⟩ : ByteArray), .str (⟨#[]⟩ : ByteArray), .str (⟨#[]⟩ : ByteArray), .int .u8 0, .int .u64 0, .int .u64 0, .int .u8 0, .str (⟨#[]⟩ : ByteArray), .int .u64 0, .int .i64 0, .str (⟨#[]⟩ : ByteArray), .str (⟨#[]⟩ : ByteArray), .str (⟨#[]⟩ : ByteArray)], .cells 61 [.vec 8], .cells 31 (oc ((bind_world_getF (3 : Int) a2 (bind_ofF a0)).1)), .cells 31 (oc ((bind_Claim_itLF a0 a2 (bind_ofF a0) (default : XObj) false).1)), .cells 4 [.bool ((bind_Claim_itLF a0 a2 (bind_ofF a0) (default : XObj) false).2)], .cells 61 [.vec 8], .cells 27 [.int .u8 (bind_world_some_4F (4 : Int) (bind_ofF a0) ((bind_world_getF (3 : Int) a2 (bind_ofF a0)).1))], .cells 58 [.fn 36 [.ptr 2 0]], .vec true ⟨.obj, bind_ofF a0⟩, .loop 2 (slots 102 [(11, .ptr 3 0), (12, .ptr 4 0)]) none]⟩ [])
def bind_Claim_itT (a0 : List XObj) (a1 : Int) (a2 : ByteArray) : Tree :=
  .leaf .normal ⟨slots 102 [(1, .int .u64 a1), (6, .ptr 0 0), (7, .ptr 1 0), (8, .ptr 2 0), (11, .ptr 3 0), (12, .ptr 4 0), (52, .fn 66 [.ptr 5 0, .ptr 6 0, .ptr 7 0])], [.cells 36 [.int .u8 0, .int .u8 0, .str (⟨#[]⟩ : ByteArray), .int .u64 0, .int .u64 0, .bool false, .bool false, .str (⟨#[]⟩ : ByteArray), .int .i64 0, .int .i64 0, .int .u8 0, .bool false, .bool false, .str (⟨#[]⟩ : ByteArray), .str (⟨#[]⟩ : ByteArray), .str (⟨#[]⟩ : ByteArray), .str (⟨#[]⟩ : ByteArray), .str (⟨#[]⟩ : ByteArray), .int .u8 0, .int .u64 0, .int .u64 0, .int .u8 0, .str (⟨#[]⟩ : ByteArray), .int .u64 0, .int .i64 0, .str (⟨#[]⟩ : ByteArray), .str (⟨#[]⟩ : ByteArray), .str (⟨#[]⟩ : ByteArray)], .cells 61 [.vec 8], .cells 31 (oc ((bind_world_getF (3 : Int) a2 (bind_ofF a0)).1)), .cells 31 (oc ((bind_Claim_itLF a0 a2 (bind_ofF a0) (default : XObj) false).1)), .cells 4 [.bool ((bind_Claim_itLF a0 a2 (bind_ofF a0) (default : XObj) false).2)], .cells 61 [.vec 8], .cells 27 [.int .u8 (bind_world_some_4F (4 : Int) (bind_ofF a0) ((bind_world_getF (3 : Int) a2 (bind_ofF a0)).1))], .cells 58 [.fn 36 [.ptr 2 0]], .vec true ⟨.obj, bind_ofF a0⟩, .dead]⟩
theorem bind_Claim_it_rg (a0 : List XObj) (a1 : Int) (a2 : ByteArray) (hp0 : a0.length ≤ 64) (hp1 : ∀ o ∈ a0, o.Fine) (Q : Exit → St → Prop) (hT : (bind_Claim_itT a0 a1 a2).All Q) : Tr Tryd.prog 0 (loopAt Tryd.f13 0) (bind_Claim_itS a0 a1 a2) Q := by
  have hc : loopAt Tryd.f13 0 = .rangeFunc (.tmp 52) (Globs.site 2).1 (Globs.site 2).2.1 (Globs.site 2).2.2 := by kernel_rfl
  rw [hc]
  refine Tr_range (site := 2) (gf := 66) (fn := Tryd.f66) (c := bodyOf Tryd.f66) (cap := [.ptr 5 0, .ptr 6 0, .ptr 7 0]) 9 [11, 12] (slots 102 [(11, .ptr 3 0), (12, .ptr 4 0)]) [.yld 9, .ptr 5 0, .ptr 6 0, .ptr 7 0] [.cells 36 [.int .u8 0, .int .u8 0, .str (⟨#[]⟩ : ByteArray), .int .u64 0, .int .u64 0, .bool false, .bool false, .str (⟨#[]⟩ : ByteArray), .int .i64 0, .int .i64 0, .int .u8 0, .bool false, .bool false, .str (⟨#[]⟩ : ByteArray), .str (⟨#[]⟩ : ByteArray), .str (⟨#[]⟩ : ByteArray), .str (⟨#[]⟩ : ByteArray), .str (⟨#[]⟩ : ByteArray), .int .u8 0, .int .u64 0, .int .u64 0, .int .u8 0, .str (⟨#[]⟩ : ByteArray), .int .u64 0, .int .i64 0, .str (⟨#[]⟩ : ByteArray), .str (⟨#[]⟩ : ByteArray), .str (⟨#[]⟩ : ByteArray)], .cells 61 [.vec 8], .cells 31 (oc ((bind_world_getF (3 : Int) a2 (bind_ofF a0)).1)), .cells 31 [.int .u8 0, .str (⟨#[]⟩ : ByteArray), .int .u64 0, .int .u64 0, .bool false, .bool false, .str (⟨#[]⟩ : ByteArray), .int .i64 0, .int .i64 0, .int .u8 0, .bool false, .bool false, .str (⟨#[]⟩ : ByteArray), .str (⟨#[]⟩ : ByteArray), .str (⟨#[]⟩ : ByteArray), .str (⟨#[]⟩ : ByteArray), .str (⟨#[]⟩ : ByteArray), .int .u8 0, .int .u64 0, .int .u64 0], .cells 4 [.bool false], .cells 61 [.vec 8], .cells 27 [.int .u8 (bind_world_some_4F (4 : Int) (bind_ofF a0) ((bind_world_getF (3 : Int) a2 (bind_ofF a0)).1))], .cells 58 [.fn 36 [.ptr 2 0]], .vec true ⟨.obj, bind_ofF a0⟩, .loop 2 (slots 102 [(11, .ptr 3 0), (12, .ptr 4 0)]) none] rfl (by kernel_rfl) (by kernel_rfl) rfl (by kernel_rfl) (by kernel_rfl) (by kernel_rfl) (by kernel_rfl) (by kernel_rfl) (by kernel_rfl) (by kernel_rfl) (by kernel_rfl) ?_
  refine Tr_tree (kok _ _ _ _ _ _) (E := E_bind_Claim_it) (L := (loopsOf [(0, bind_Claim_itLS a0 a1 a2 0 (default : XObj) false, [], bind_Claim_itLT a0 a1 a2 0 (default : XObj) false)])) 60 9999 (LoopsOk.one (g := loopAt Tryd.f66 0) (b := 0) (by kernel_rfl) (by kernel_rfl) (by kernel_rfl) (by kernel_rfl) (fun Q h => bind_Claim_itL_loop a0 a1 a2 hp0 hp1 (by first | assumption | omega | exact of_short _ (by first | assumption | omega | exact Nat.le_trans (w12_few_len _) (by decide)) | exact r12_Uniq_short _ (by first | assumption | omega | exact Nat.le_trans (w12_few_len _) (by decide)) | exact Nat.lt_of_le_of_lt (w12_few_len _) (by decide) | decide | (simp only [List.length_append, List.length_cons, List.length_nil]; have := w12_few_len a0; omega)) ⟨(0, (default : XObj), false), by first | exact Nat.zero_le _ | (show 0 ≤ (bind_ofF a0).length; omega) | (show 0 ≤ (bind_ofF a0).length; exact ⟨Nat.zero_le _, by assumption⟩) | (show 0 ≤ (bind_ofF a0).length; simp)⟩ Q h)) (bind_Claim_itR a0 a1 a2) (by kernel_rfl) (by kernel_rfl) (by kernel_rfl) ?_
  unfold bind_Claim_itR
  unfold bind_Claim_itT at hT
  exact ⟨⟨trivial, .tup [], by kernel_rfl⟩, none, [.cells 36 [.int .u8 0, .int .u8 0, .str (⟨#[]⟩ : ByteArray), .int .u64 0, .int .u64 0, .bool false, .bool false, .str (⟨#[]⟩ : ByteArray), .int .i64 0, .int .i64 0, .int .u8 0, .bool false, .bool false, .str (⟨#[]⟩ : ByteArray), .str (⟨#[]⟩ : ByteArray), .str (⟨#[]⟩ : ByteArray), .str (⟨#[]⟩ : ByteArray), .str (⟨#[]⟩ : ByteArray), .int .u8 0, .int .u64 0, .int .u64 0, .int .u8 0, .str (⟨#[]⟩ : ByteArray), .int .u64 0, .int .i64 0, .str (⟨#[]⟩ : ByteArray), .str (⟨#[]⟩ : ByteArray), .str (⟨#[]⟩ : ByteArray)], .cells 61 [.vec 8], .cells 31 (oc ((bind_world_getF (3 : Int) a2 (bind_ofF a0)).1)), .cells 31 (oc ((bind_Claim_itLF a0 a2 (bind_ofF a0) (default : XObj) false).1)), .cells 4 [.bool ((bind_Claim_itLF a0 a2 (bind_ofF a0) (default : XObj) false).2)], .cells 61 [.vec 8], .cells 27 [.int .u8 (bind_world_some_4F (4 : Int) (bind_ofF a0) ((bind_world_getF (3 : Int) a2 (bind_ofF a0)).1))], .cells 58 [.fn 36 [.ptr 2 0]], .vec true ⟨.obj, bind_ofF a0⟩, .dead], by kernel_rfl, rfl, by kernel_rfl, by kernel_rfl, by kernel_rfl, by kernel_rfl, hT⟩
noncomputable def E_bind_write : Env := envOf (P := Tryd.prog) [] [] [] ckf
def bind_writeF (a0 : XObj) : XAct :=
  (⟨(1 : Int), a0, (default : XCall)⟩ : XAct)
def bind_writeR (a0 : XObj) : RT :=
  (.leaf .ret ⟨slots 5 [(2, .ptr 0 0)], [.cells 36 [.int .u8 1, .int .u8 a0.kind, .str a0.name, .int .u64 a0.version, .int .u64 a0.born, .bool a0.deleting, .bool a0.hold, .str a0.cls, .int .i64 a0.size, .int .i64 a0.got, .int .u8 a0.mode, .bool a0.keep, .bool a0.wait, .str a0.zone, .str a0.node, .str a0.claim, .str a0.volume, .str a0.source, .int .u8 a0.phase, .int .u64 a0.num, .int .u64 a0.tag, .int .u8 0, .str (⟨#[]⟩ : ByteArray), .int .u64 0, .int .i64 0, .str (⟨#[]⟩ : ByteArray), .str (⟨#[]⟩ : ByteArray), .str (⟨#[]⟩ : ByteArray)]]⟩ [1])
theorem bind_writeF_tr (a0 : XObj)  : Tr Tryd.prog 0 (bodyOf Tryd.f37) (fnBegins Tryd.f37 [.agg (oc a0)] []) (fnEnds Tryd.prog Tryd.f37 (.agg (ac (bind_writeF a0))) []) := by
  refine Tr_tree (kok _ _ _ _ _ _) (E := E_bind_write) (L := noLoops) 60 9999 LoopsOk.none (bind_writeR a0) (by kernel_rfl) (by kernel_rfl) (by kernel_rfl) ?_
  unfold bind_writeR
  exact ⟨trivial, .inl (by kernel_rfl), by kernel_rfl⟩
noncomputable def bind_write_fact : Fact Tryd.prog := factOf 37 Tryd.f37 (by kernel_rfl) rfl (by kernel_rfl) [.st .obj] [] true (fun t u => .agg (ac (bind_writeF t.1))) (fun t u => []) (fun t u => [])
  (fun _ _ _ => rfl) (fun t u => by kernel_rfl) (fun t u => by kernel_rfl) (fun t u h => bind_writeF_tr t.1 )
noncomputable def E_bind_ask : Env := envOf (P := Tryd.prog) [] [] [] ckf
def bind_askF (a0 : XCall) : XAct :=
  (⟨(3 : Int), (default : XObj), a0⟩ : XAct)
def bind_askR (a0 : XCall) : RT :=
  (.leaf .ret ⟨slots 5 [(2, .ptr 0 0)], [.cells 36 [.int .u8 3, .int .u8 0, .str (⟨#[]⟩ : ByteArray), .int .u64 0, .int .u64 0, .bool false, .bool false, .str (⟨#[]⟩ : ByteArray), .int .i64 0, .int .i64 0, .int .u8 0, .bool false, .bool false, .str (⟨#[]⟩ : ByteArray), .str (⟨#[]⟩ : ByteArray), .str (⟨#[]⟩ : ByteArray), .str (⟨#[]⟩ : ByteArray), .str (⟨#[]⟩ : ByteArray), .int .u8 0, .int .u64 0, .int .u64 0, .int .u8 a0.verb, .str a0.target, .int .u64 a0.num, .int .i64 a0.size, .str a0.zone, .str a0.node, .str a0.source]]⟩ [1])
theorem bind_askF_tr (a0 : XCall)  : Tr Tryd.prog 0 (bodyOf Tryd.f57) (fnBegins Tryd.f57 [.agg (cc a0)] []) (fnEnds Tryd.prog Tryd.f57 (.agg (ac (bind_askF a0))) []) := by
  refine Tr_tree (kok _ _ _ _ _ _) (E := E_bind_ask) (L := noLoops) 60 9999 LoopsOk.none (bind_askR a0) (by kernel_rfl) (by kernel_rfl) (by kernel_rfl) ?_
  unfold bind_askR
  exact ⟨trivial, .inl (by kernel_rfl), by kernel_rfl⟩
noncomputable def bind_ask_fact : Fact Tryd.prog := factOf 57 Tryd.f57 (by kernel_rfl) rfl (by kernel_rfl) [.st .call] [] true (fun t u => .agg (ac (bind_askF t.1))) (fun t u => []) (fun t u => [])
  (fun _ _ _ => rfl) (fun t u => by kernel_rfl) (fun t u => by kernel_rfl) (fun t u h => bind_askF_tr t.1 )
noncomputable def E_bind_world_give : Env := envOf (P := Tryd.prog) [bind_remove_fact, bind_Handle_fact, bind_ask_fact, bind_write_fact] [] [] ckf
def bind_world_giveF (a1 : XObj) (a2 : Int) (b0 : List XObj) : XAct :=
  cond (a1.num == (0 : Int))
    (bind_removeF a1)
    (cond (!(a1.phase == (2 : Int)))
      (bind_askF (⟨(2 : Int), bind_HandleF a1, a1.num, (0 : Int), (⟨#[]⟩ : ByteArray), (⟨#[]⟩ : ByteArray), (⟨#[]⟩ : ByteArray)⟩ : XCall))
      (bind_writeF ({ a1 with phase := (1 : Int), num := (IntKind.u64.wrap (a2 + (1 : Int))) } : XObj)))
def bind_world_giveR (a1 : XObj) (a2 : Int) (b0 : List XObj) : RT :=
  (.ask (a1.num == (0 : Int))
    (.leaf .ret ⟨slots 27 [(6, .ptr 1 0)], [.vec true ⟨.obj, b0⟩, .cells 36 (ac (bind_removeF a1))]⟩ [0, 3])
    (.ask (!(a1.phase == (2 : Int)))
      (.need [a1.Fine]
        (.leaf .ret ⟨slots 27 [(6, .ptr 1 0)], [.vec true ⟨.obj, b0⟩, .cells 36 (ac (bind_askF (⟨(2 : Int), bind_HandleF a1, a1.num, (0 : Int), (⟨#[]⟩ : ByteArray), (⟨#[]⟩ : ByteArray), (⟨#[]⟩ : ByteArray)⟩ : XCall)))]⟩ [0, 3]))
      (.leaf .ret ⟨slots 27 [(6, .ptr 1 0)], [.vec true ⟨.obj, b0⟩, .cells 36 (ac (bind_writeF ({ a1 with phase := (1 : Int), num := (IntKind.u64.wrap (a2 + (1 : Int))) } : XObj)))]⟩ [0, 3])))
theorem bind_world_giveF_tr (a1 : XObj) (a2 : Int) (b0 : List XObj) (hp0 : a1.Fine) : Tr Tryd.prog 1 (bodyOf Tryd.f38) (fnBegins Tryd.f38 [.agg [.vec 0], .agg (oc a1), .int .u64 a2] [.vec true ⟨.obj, b0⟩]) (fnEnds Tryd.prog Tryd.f38 (.agg (ac (bind_world_giveF a1 a2 b0))) [.vec true ⟨.obj, b0⟩]) := by
  refine Tr_tree (kok _ _ _ _ _ _) (E := E_bind_world_give) (L := noLoops) 60 9999 LoopsOk.none (bind_world_giveR a1 a2 b0) (by kernel_rfl) (by kernel_rfl) (by kernel_rfl) ?_
  unfold bind_world_giveR
  refine ⟨fun h0 => ?_, fun h0 => ?_⟩
  · have hF : bind_world_giveF a1 a2 b0 = (bind_removeF a1) := by first | exact (cond_t h0 rfl) | simp only [bind_world_giveF, h0, cond_true, cond_false]
    exact ⟨trivial, .inl (by first | (rw [hF]; kernel_rfl) | kernel_rfl), by first | (rw [hF]; kernel_rfl) | kernel_rfl⟩
  · refine ⟨fun h1 => ?_, fun h1 => ?_⟩
    · refine ⟨need_cons (by (try refine fun (_ : _ = _) => ?_); first | assumption | exact get_fine _ _ _ (by first | assumption | exact of_fine _ (by first | assumption | exact w12_few_fine (by assumption)) | exact r12_Uniq_fine _ (by first | assumption | exact w12_few_fine (by assumption)) | exact w12_few_fine (by assumption)) | exact r12_Get_fine _ _ _ (by first | assumption | exact of_fine _ (by first | assumption | exact w12_few_fine (by assumption)) | exact r12_Uniq_fine _ (by first | assumption | exact w12_few_fine (by assumption)) | exact w12_few_fine (by assumption)) | exact fine_default | exact hp1 _ (gD_mem (by assumption)) | exact r12_Uniq_fine _ (by assumption) _ (gD_mem (by assumption)) | exact of_fine _ (by assumption) _ (gD_mem (by assumption)) | exact w12_few_fine (by assumption) _ (gD_mem (by assumption)) | exact hp1 | exact hp0 | (refine ⟨?_, ?_, ?_, ?_, ?_, ?_, ?_, ?_, ?_⟩ <;> first | assumption | decide | (simp only [size_mk]; decide))) (need_nil), ?_⟩
      have hF : bind_world_giveF a1 a2 b0 = (bind_askF (⟨(2 : Int), bind_HandleF a1, a1.num, (0 : Int), (⟨#[]⟩ : ByteArray), (⟨#[]⟩ : ByteArray), (⟨#[]⟩ : ByteArray)⟩ : XCall)) := by first | exact (cond_f h0 (cond_t h1 rfl)) | simp only [bind_world_giveF, h0, h1, cond_true, cond_false]
      exact ⟨trivial, .inl (by first | (rw [hF]; kernel_rfl) | kernel_rfl), by first | (rw [hF]; kernel_rfl) | kernel_rfl⟩
    · have hF : bind_world_giveF a1 a2 b0 = (bind_writeF ({ a1 with phase := (1 : Int), num := (IntKind.u64.wrap (a2 + (1 : Int))) } : XObj)) := by first | exact (cond_f h0 (cond_f h1 rfl)) | simp only [bind_world_giveF, h0, h1, cond_true, cond_false]
      exact ⟨trivial, .inl (by first | (rw [hF]; kernel_rfl) | kernel_rfl), by first | (rw [hF]; kernel_rfl) | kernel_rfl⟩
noncomputable def bind_world_give_fact : Fact Tryd.prog := factOf 38 Tryd.f38 (by kernel_rfl) rfl (by kernel_rfl) [.agg [.vec 0], .st .obj, .c (.int .u64)] [.vec true .obj] true (fun t u => .agg (ac (bind_world_giveF t.2.1 t.2.2.1 u.1))) (fun t u => HPL.enc _ u) (fun t u => [t.2.1.Fine])
  (fun _ _ _ => rfl) (fun t u => by kernel_rfl) (fun t u => by kernel_rfl) (fun t u h => bind_world_giveF_tr t.2.1 t.2.2.1 u.1 (h _ List.mem_cons_self))
noncomputable def E_bind_world_create : Env := envOf (P := Tryd.prog) [bind_Handle_fact, bind_world_get_fact, fmtU_fact, bind_ask_fact] [] [] ckf
def bind_world_createF (a1 : XObj) (b0 : List XObj) : XAct :=
  cond (!(decide (a1.source = (⟨#[]⟩ : ByteArray))))
    (cond (!((bind_world_getF (7 : Int) a1.source b0).2))
      (default : XAct)
      (bind_askF (⟨(1 : Int), bind_HandleF a1, a1.num, a1.size, a1.zone, (⟨#[]⟩ : ByteArray), (((⟨#[115, 110, 97, 112, 47]⟩ : ByteArray) ++ (((bind_world_getF (7 : Int) a1.source b0).1).name)) ++ (⟨#[35]⟩ : ByteArray)) ++ (fmtU (((bind_world_getF (7 : Int) a1.source b0).1).born))⟩ : XCall)))
    (bind_askF (⟨(1 : Int), bind_HandleF a1, a1.num, a1.size, a1.zone, (⟨#[]⟩ : ByteArray), (⟨#[]⟩ : ByteArray)⟩ : XCall))
def bind_world_createR (a1 : XObj) (b0 : List XObj) : RT :=
  (.need [a1.Fine]
    (.ask (!(decide (a1.source = (⟨#[]⟩ : ByteArray))))
      (.need [b0.length < 4611686018427387904, ∀ o ∈ b0, o.Fine]
        (.ask (!((bind_world_getF (7 : Int) a1.source b0).2))
          (.leaf .ret ⟨slots 41 [(4, .ptr 1 0)], [.vec true ⟨.obj, b0⟩, .cells 36 [.int .u8 0, .int .u8 0, .str (⟨#[]⟩ : ByteArray), .int .u64 0, .int .u64 0, .bool false, .bool false, .str (⟨#[]⟩ : ByteArray), .int .i64 0, .int .i64 0, .int .u8 0, .bool false, .bool false, .str (⟨#[]⟩ : ByteArray), .str (⟨#[]⟩ : ByteArray), .str (⟨#[]⟩ : ByteArray), .str (⟨#[]⟩ : ByteArray), .str (⟨#[]⟩ : ByteArray), .int .u8 0, .int .u64 0, .int .u64 0, .int .u8 0, .str (⟨#[]⟩ : ByteArray), .int .u64 0, .int .i64 0, .str (⟨#[]⟩ : ByteArray), .str (⟨#[]⟩ : ByteArray), .str (⟨#[]⟩ : ByteArray)]]⟩ [0, 3])
          (.need [(⟨#[115, 110, 97, 112, 47]⟩ : ByteArray).size + (((bind_world_getF (7 : Int) a1.source b0).1).name).size ≤ 9223372036854775807, ((⟨#[115, 110, 97, 112, 47]⟩ : ByteArray) ++ (((bind_world_getF (7 : Int) a1.source b0).1).name)).size + (⟨#[35]⟩ : ByteArray).size ≤ 9223372036854775807, 0 ≤ (((bind_world_getF (7 : Int) a1.source b0).1).born) ∧ (((bind_world_getF (7 : Int) a1.source b0).1).born) ≤ 18446744073709551615, (((⟨#[115, 110, 97, 112, 47]⟩ : ByteArray) ++ (((bind_world_getF (7 : Int) a1.source b0).1).name)) ++ (⟨#[35]⟩ : ByteArray)).size + (fmtU (((bind_world_getF (7 : Int) a1.source b0).1).born)).size ≤ 9223372036854775807]
            (.leaf .ret ⟨slots 41 [(4, .ptr 1 0)], [.vec true ⟨.obj, b0⟩, .cells 36 (ac (bind_askF (⟨(1 : Int), bind_HandleF a1, a1.num, a1.size, a1.zone, (⟨#[]⟩ : ByteArray), (((⟨#[115, 110, 97, 112, 47]⟩ : ByteArray) ++ (((bind_world_getF (7 : Int) a1.source b0).1).name)) ++ (⟨#[35]⟩ : ByteArray)) ++ (fmtU (((bind_world_getF (7 : Int) a1.source b0).1).born))⟩ : XCall)))]⟩ [0, 3]))))
      (.leaf .ret ⟨slots 41 [(4, .ptr 1 0)], [.vec true ⟨.obj, b0⟩, .cells 36 (ac (bind_askF (⟨(1 : Int), bind_HandleF a1, a1.num, a1.size, a1.zone, (⟨#[]⟩ : ByteArray), (⟨#[]⟩ : ByteArray)⟩ : XCall)))]⟩ [0, 3])))
theorem bind_world_createF_tr (a1 : XObj) (b0 : List XObj) (hp0 : b0.length < 4611686018427387904) (hp1 : ∀ o ∈ b0, o.Fine) (hp2 : a1.Fine) : Tr Tryd.prog 1 (bodyOf Tryd.f39) (fnBegins Tryd.f39 [.agg [.vec 0], .agg (oc a1)] [.vec true ⟨.obj, b0⟩]) (fnEnds Tryd.prog Tryd.f39 (.agg (ac (bind_world_createF a1 b0))) [.vec true ⟨.obj, b0⟩]) := by
  refine Tr_tree (kok _ _ _ _ _ _) (E := E_bind_world_create) (L := noLoops) 60 9999 LoopsOk.none (bind_world_createR a1 b0) (by kernel_rfl) (by kernel_rfl) (by kernel_rfl) ?_
  unfold bind_world_createR
  refine ⟨need_cons (by (try refine fun (_ : _ = _) => ?_); first | assumption | exact get_fine _ _ _ (by first | assumption | exact of_fine _ (by first | assumption | exact w12_few_fine (by assumption)) | exact r12_Uniq_fine _ (by first | assumption | exact w12_few_fine (by assumption)) | exact w12_few_fine (by assumption)) | exact r12_Get_fine _ _ _ (by first | assumption | exact of_fine _ (by first | assumption | exact w12_few_fine (by assumption)) | exact r12_Uniq_fine _ (by first | assumption | exact w12_few_fine (by assumption)) | exact w12_few_fine (by assumption)) | exact fine_default | exact hp1 _ (gD_mem (by assumption)) | exact r12_Uniq_fine _ (by assumption) _ (gD_mem (by assumption)) | exact of_fine _ (by assumption) _ (gD_mem (by assumption)) | exact w12_few_fine (by assumption) _ (gD_mem (by assumption)) | exact hp1 | exact hp0 | (refine ⟨?_, ?_, ?_, ?_, ?_, ?_, ?_, ?_, ?_⟩ <;> first | assumption | decide | (simp only [size_mk]; decide))) (need_nil), ?_⟩
  refine ⟨fun h0 => ?_, fun h0 => ?_⟩
  · refine ⟨need_cons (by (try refine fun (_ : _ = _) => ?_); first | assumption | omega | exact of_short _ (by first | assumption | omega | exact Nat.le_trans (w12_few_len _) (by decide)) | exact r12_Uniq_short _ (by first | assumption | omega | exact Nat.le_trans (w12_few_len _) (by decide)) | exact Nat.lt_of_le_of_lt (w12_few_len _) (by decide) | decide | (simp only [List.length_append, List.length_cons, List.length_nil]; have := w12_few_len a0; omega)) (need_cons (by (try refine fun (_ : _ = _) => ?_); first | assumption | exact of_fine _ (by first | assumption | exact w12_few_fine (by assumption)) | exact r12_Uniq_fine _ (by first | assumption | exact w12_few_fine (by assumption)) | exact w12_few_fine (by assumption) | exact cons2_fine hp1 ⟨hp1.2.2.2.2.2.2.2.1, Int.le_refl 0, (by decide : (0 : Int) ≤ 18446744073709551615), Nat.zero_le _, Nat.zero_le _, Nat.zero_le _, ref_size _, Nat.zero_le _, Nat.zero_le _⟩ (w12_few_fine hp0) | (simp only [List.mem_cons, List.not_mem_nil, or_false, forall_eq_or_imp, forall_eq, XObj.Fine, size_mk]; decide)) (need_nil)), ?_⟩
    refine ⟨fun h1 => ?_, fun h1 => ?_⟩
    · have hF : bind_world_createF a1 b0 = (default : XAct) := by first | exact (cond_t h0 (cond_t h1 rfl)) | simp only [bind_world_createF, h0, h1, cond_true, cond_false]
      exact ⟨trivial, .inl (by first | (rw [hF]; kernel_rfl) | kernel_rfl), by first | (rw [hF]; kernel_rfl) | kernel_rfl⟩
    · refine ⟨need_cons (by have hf := get_fine (7 : Int) a1.source b0 hp1; have hz := hf.1; have hb := fmtU_size hf.2.2.1; simp only [size_mk, ByteArray.size_append, List.size_toArray, List.length_cons, List.length_nil]; omega) (need_cons (by have hf := get_fine (7 : Int) a1.source b0 hp1; have hz := hf.1; have hb := fmtU_size hf.2.2.1; simp only [size_mk, ByteArray.size_append, List.size_toArray, List.length_cons, List.length_nil]; omega) (need_cons (by have hf := get_fine (7 : Int) a1.source b0 hp1; exact ⟨hf.2.1, hf.2.2.1⟩) (need_cons (by have hf := get_fine (7 : Int) a1.source b0 hp1; have hz := hf.1; have hb := fmtU_size hf.2.2.1; simp only [size_mk, ByteArray.size_append, List.size_toArray, List.length_cons, List.length_nil]; omega) (need_nil)))), ?_⟩
      have hF : bind_world_createF a1 b0 = (bind_askF (⟨(1 : Int), bind_HandleF a1, a1.num, a1.size, a1.zone, (⟨#[]⟩ : ByteArray), (((⟨#[115, 110, 97, 112, 47]⟩ : ByteArray) ++ (((bind_world_getF (7 : Int) a1.source b0).1).name)) ++ (⟨#[35]⟩ : ByteArray)) ++ (fmtU (((bind_world_getF (7 : Int) a1.source b0).1).born))⟩ : XCall)) := by first | exact (cond_t h0 (cond_f h1 rfl)) | simp only [bind_world_createF, h0, h1, cond_true, cond_false]
      exact ⟨trivial, .inl (by first | (rw [hF]; kernel_rfl) | kernel_rfl), by first | (rw [hF]; kernel_rfl) | kernel_rfl⟩
  · have hF : bind_world_createF a1 b0 = (bind_askF (⟨(1 : Int), bind_HandleF a1, a1.num, a1.size, a1.zone, (⟨#[]⟩ : ByteArray), (⟨#[]⟩ : ByteArray)⟩ : XCall)) := by first | exact (cond_f h0 rfl) | simp only [bind_world_createF, h0, cond_true, cond_false]
    exact ⟨trivial, .inl (by first | (rw [hF]; kernel_rfl) | kernel_rfl), by first | (rw [hF]; kernel_rfl) | kernel_rfl⟩
noncomputable def bind_world_create_fact : Fact Tryd.prog := factOf 39 Tryd.f39 (by kernel_rfl) rfl (by kernel_rfl) [.agg [.vec 0], .st .obj] [.vec true .obj] true (fun t u => .agg (ac (bind_world_createF t.2.1 u.1))) (fun t u => HPL.enc _ u) (fun t u => [u.1.length < 4611686018427387904, ∀ o ∈ u.1, o.Fine, t.2.1.Fine])
  (fun _ _ _ => rfl) (fun t u => by kernel_rfl) (fun t u => by kernel_rfl) (fun t u h => bind_world_createF_tr t.2.1 u.1 (h _ List.mem_cons_self) (h _ (List.mem_cons_of_mem _ List.mem_cons_self)) (h _ (List.mem_cons_of_mem _ (List.mem_cons_of_mem _ List.mem_cons_self))))
noncomputable def E_bind_world_some_5 : Env := envOf (P := Tryd.prog) [] [] [] ckf
def bind_world_some_5F (a1 : Int) (b0 : List XObj) (b1 : XObj) (b2 : Bool) (b3 : XObj) : Int :=
  a1
def bind_world_some_5R (a1 : Int) (b0 : List XObj) (b1 : XObj) (b2 : Bool) (b3 : XObj) : RT :=
  (.leaf .ret ⟨slots 8 [(6, .fn 66 [.ptr 4 0, .ptr 5 0, .ptr 6 0])], [.vec true ⟨.obj, b0⟩, .cells 31 (oc b1), .cells 4 [.bool b2], .cells 31 (oc b3), .cells 61 [.vec 0], .cells 27 [.int .u8 a1], .cells 58 [.fn 50 [.ptr 1 0, .ptr 2 0, .ptr 3 0]]]⟩ [])
theorem bind_world_some_5F_tr (a1 : Int) (b0 : List XObj) (b1 : XObj) (b2 : Bool) (b3 : XObj)  : Tr Tryd.prog 4 (bodyOf Tryd.f35) (fnBegins Tryd.f35 [.agg [.vec 0], .int .u8 a1, .fn 50 [.ptr 1 0, .ptr 2 0, .ptr 3 0]] [.vec true ⟨.obj, b0⟩, .cells 31 (oc b1), .cells 4 [.bool b2], .cells 31 (oc b3)]) (fnEnds Tryd.prog Tryd.f35 (.fn 66 [.ptr 4 0, .ptr 5 0, .ptr 6 0]) [.vec true ⟨.obj, b0⟩, .cells 31 (oc b1), .cells 4 [.bool b2], .cells 31 (oc b3), .cells 61 [.vec 0], .cells 27 [.int .u8 (bind_world_some_5F a1 b0 b1 b2 b3)], .cells 58 [.fn 50 [.ptr 1 0, .ptr 2 0, .ptr 3 0]]]) := by
  refine Tr_tree (kok _ _ _ _ _ _) (E := E_bind_world_some_5) (L := noLoops) 60 9999 LoopsOk.none (bind_world_some_5R a1 b0 b1 b2 b3) (by kernel_rfl) (by kernel_rfl) (by kernel_rfl) ?_
  unfold bind_world_some_5R
  exact ⟨trivial, .inl (by kernel_rfl), by kernel_rfl⟩
noncomputable def bind_world_some_5_fact : Fact Tryd.prog := factOf 35 Tryd.f35 (by kernel_rfl) rfl (by kernel_rfl) [.agg [.vec 0], .c (.int .u8), .fn 50 [.ptr 1 0, .ptr 2 0, .ptr 3 0]] [.vec true .obj, .st 31 .obj, .cells 4 [.bool], .st 31 .obj] false (fun t u => .fn 66 [.ptr 4 0, .ptr 5 0, .ptr 6 0]) (fun t u => [.vec true ⟨.obj, u.1⟩, .cells 31 (oc u.2.1), .cells 4 [.bool u.2.2.1.1], .cells 31 (oc u.2.2.2.1), .cells 61 [.vec 0], .cells 27 [.int .u8 (bind_world_some_5F t.2.1 u.1 u.2.1 u.2.2.1.1 u.2.2.2.1)], .cells 58 [.fn 50 [.ptr 1 0, .ptr 2 0, .ptr 3 0]]]) (fun t u => [])
  (nofun) (fun t u => by kernel_rfl) (fun t u => by kernel_rfl) (fun t u h => bind_world_some_5F_tr t.2.1 u.1 u.2.1 u.2.2.1.1 u.2.2.2.1 )
noncomputable def E_bind_Best_1 : Env := envOf (P := Tryd.prog) [] [] [] ckf
def bind_Best_1F (a0 : XObj) (b0 : XObj) (b1 : Bool) (b2 : XObj) : Bool :=
  cond (cond (cond (cond (cond (a0.phase == (4 : Int)) (!a0.deleting) false) (decide (a0.cls = b0.cls)) false) (a0.mode == b0.mode) false) (decide (a0.got ≥ b0.size)) false) (cond (!b1) true (decide (a0.zone = b2.zone))) false
def bind_Best_1R (a0 : XObj) (b0 : XObj) (b1 : Bool) (b2 : XObj) : RT :=
  (.leaf .ret ⟨slots 48 [(5, .bool (cond (cond (cond (cond (cond (a0.phase == (4 : Int)) (!a0.deleting) false) (decide (a0.cls = b0.cls)) false) (a0.mode == b0.mode) false) (decide (a0.got ≥ b0.size)) false) (cond (!b1) true (decide (a0.zone = b2.zone))) false))], [.cells 31 (oc b0), .cells 4 [.bool b1], .cells 31 (oc b2)]⟩ [])
theorem bind_Best_1F_tr (a0 : XObj) (b0 : XObj) (b1 : Bool) (b2 : XObj)  : Tr Tryd.prog 3 (bodyOf Tryd.f50) (fnBegins Tryd.f50 [.agg (oc a0), .ptr 0 0, .ptr 1 0, .ptr 2 0] [.cells 31 (oc b0), .cells 4 [.bool b1], .cells 31 (oc b2)]) (fnEnds Tryd.prog Tryd.f50 (.bool (bind_Best_1F a0 b0 b1 b2)) [.cells 31 (oc b0), .cells 4 [.bool b1], .cells 31 (oc b2)]) := by
  refine Tr_tree (kok _ _ _ _ _ _) (E := E_bind_Best_1) (L := noLoops) 60 9999 LoopsOk.none (bind_Best_1R a0 b0 b1 b2) (by kernel_rfl) (by kernel_rfl) (by kernel_rfl) ?_
  unfold bind_Best_1R
  exact ⟨trivial, .inl (by kernel_rfl), by kernel_rfl⟩
noncomputable def bind_Best_1_fact : Fact Tryd.prog := factOf 50 Tryd.f50 (by kernel_rfl) rfl (by kernel_rfl) [.st .obj, .c (.ptr 0 0), .c (.ptr 1 0), .c (.ptr 2 0)] [.st 31 .obj, .cells 4 [.bool], .st 31 .obj] true (fun t u => .bool (bind_Best_1F t.1 u.1 u.2.1.1 u.2.2.1)) (fun t u => HPL.enc _ u) (fun t u => [])
  (fun _ _ _ => rfl) (fun t u => by kernel_rfl) (fun t u => by kernel_rfl) (fun t u h => bind_Best_1F_tr t.1 u.1 u.2.1.1 u.2.2.1 )
noncomputable def E_bind_Best_r : Env := envOf (P := Tryd.prog) [] [] [] ckf
def bind_Best_rF (a1 : XObj) (b1 : XObj) (b2 : Bool) : XObj × Bool :=
  cond (cond (cond (!b2) true (decide (a1.got < b1.got))) true (cond (a1.got == b1.got) (strLess a1.name b1.name) false))
    (a1, true)
    (b1, b2)
def bind_Best_rQ (a1 : XObj) (b1 : XObj) (b2 : Bool) : RT :=
  (.leaf .normal ⟨slots 50 [(9, .ptr 1 0), (10, .ptr 2 0), (11, .ptr 3 0)], [.dead, .cells 31 (oc b1), .cells 4 [.bool b2], .cells 31 (oc a1)]⟩ [])
def bind_Best_rR (a1 : XObj) (b1 : XObj) (b2 : Bool) : RT :=
  (.ask (cond (cond (!b2) true (decide (a1.got < b1.got))) true (cond (a1.got == b1.got) (strLess a1.name b1.name) false))
    (.leaf .normal ⟨slots 50 [], [.dead, .cells 31 (oc a1), .cells 4 [.bool true]]⟩ [])
    (.leaf .normal ⟨slots 50 [], [.dead, .cells 31 (oc b1), .cells 4 [.bool b2]]⟩ []))
theorem bind_Best_r_tr (a1 : XObj) (b1 : XObj) (b2 : Bool)  : Tr Tryd.prog 3 (Globs.site 3).2.1 ⟨slots 50 [(9, .ptr 1 0), (10, .ptr 2 0), (23, .agg (oc a1))], .dead :: [.cells 31 (oc b1), .cells 4 [.bool b2]]⟩ (fun e s1 => e = .normal ∧ Tr Tryd.prog 3 (Globs.site 3).2.2 s1 (rdEnds (true) .normal [.cells 31 (oc ((bind_Best_rF a1 b1 b2).1)), .cells 4 [.bool ((bind_Best_rF a1 b1 b2).2)]] .normal [.cells 31 (oc ((bind_Best_rF a1 b1 b2).1)), .cells 4 [.bool ((bind_Best_rF a1 b1 b2).2)]])) := by
  refine Tr_tree (kok _ _ _ _ _ _) (E := E_bind_Best_r) (L := noLoops) 60 9999 LoopsOk.none (bind_Best_rQ a1 b1 b2) (by kernel_rfl) (by kernel_rfl) (by kernel_rfl) ?_
  unfold bind_Best_rQ
  refine ⟨rfl, ?_⟩
  refine Tr_tree (kok _ _ _ _ _ _) (E := E_bind_Best_r) (L := noLoops) 60 9999 LoopsOk.none (bind_Best_rR a1 b1 b2) (by kernel_rfl) (by kernel_rfl) (by kernel_rfl) ?_
  unfold bind_Best_rR
  refine ⟨fun h0 => ?_, fun h0 => ?_⟩
  · have hF : bind_Best_rF a1 b1 b2 = (a1, true) := by first | exact (cond_t h0 rfl) | simp only [bind_Best_rF, h0, cond_true, cond_false]
    exact .inl ⟨rfl, rfl, by first | (rw [hF]; kernel_rfl) | kernel_rfl⟩
  · have hF : bind_Best_rF a1 b1 b2 = (b1, b2) := by first | exact (cond_f h0 rfl) | simp only [bind_Best_rF, h0, cond_true, cond_false]
    exact .inl ⟨rfl, rfl, by first | (rw [hF]; kernel_rfl) | kernel_rfl⟩
end Go.Proofs.YtnfmnipckcidlaaDoor
