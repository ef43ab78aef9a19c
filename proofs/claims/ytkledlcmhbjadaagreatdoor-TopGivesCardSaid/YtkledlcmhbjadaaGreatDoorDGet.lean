/- Bind: what is looked for. -/
import Derived.Test.YtkledlcmhbjadaaGreatDoorDRef
set_option linter.unusedVariables false
set_option linter.unusedSimpArgs false
set_option maxRecDepth 100000
namespace Go.Proofs.YtkledlcmhbjadaaGreatDoor
open Go Go.Eng
noncomputable def E_bind_world_some : Env := envOf (P := Tryz.prog) [] [] [] ckf
def bind_world_someF (a1 : Int) (b0 : List XObj) (b1 : ByteArray) : Int :=
 a1
def bind_world_someR (a1 : Int) (b0 : List XObj) (b1 : ByteArray) : RT :=
 (.leaf .ret ⟨slots 8 [(6, .fn 41 [.ptr 2 0, .ptr 3 0, .ptr 4 0])], [.vec true ⟨.obj, b0⟩, .cells 9 [.str b1], .cells 67 [.vec 0], .cells 27 [.int .u8 a1], .cells 73 [.fn 39 [.ptr 1 0]]]⟩ [])
theorem bind_world_someF_tr (a1 : Int) (b0 : List XObj) (b1 : ByteArray)  : Tr Tryz.prog 2 (bodyOf Tryz.f20) (fnBegins Tryz.f20 [.agg [.vec 0], .int .u8 a1, .fn 39 [.ptr 1 0]] [.vec true ⟨.obj, b0⟩, .cells 9 [.str b1]]) (fnEnds Tryz.prog Tryz.f20 (.fn 41 [.ptr 2 0, .ptr 3 0, .ptr 4 0]) [.vec true ⟨.obj, b0⟩, .cells 9 [.str b1], .cells 67 [.vec 0], .cells 27 [.int .u8 (bind_world_someF a1 b0 b1)], .cells 73 [.fn 39 [.ptr 1 0]]]) := by
 refine Tr_tree (kok _ _ _ _ _ _) (E := E_bind_world_some) (L := noLoops) 60 9999 LoopsOk.none (bind_world_someR a1 b0 b1) (by kernel_rfl) (by kernel_rfl) (by kernel_rfl) ?_
 unfold bind_world_someR
 exact ⟨trivial, .inl (by kernel_rfl), by kernel_rfl⟩
noncomputable def bind_world_some_fact0 : Fact Tryz.prog := factOf 20 Tryz.f20 (by kernel_rfl) rfl (by kernel_rfl) [.agg [.vec 0], .c (.int .u8), .fn 39 [.ptr 1 0]] [.vec true .obj, .cells 9 [.str]] false (fun t u => .fn 41 [.ptr 2 0, .ptr 3 0, .ptr 4 0]) (fun t u => [.vec true ⟨.obj, u.1⟩, .cells 9 [.str u.2.1.1], .cells 67 [.vec 0], .cells 27 [.int .u8 (bind_world_someF t.2.1 u.1 u.2.1.1)], .cells 73 [.fn 39 [.ptr 1 0]]]) (fun t u => [])
 (nofun) (fun t u => by kernel_rfl) (fun t u => by kernel_rfl) (fun t u h => bind_world_someF_tr t.2.1 u.1 u.2.1.1 )
noncomputable def bind_world_some_fact : Fact Tryz.prog := factThin bind_world_some_fact0 [.agg [.vec 0], .c (.int .u8), .fn 39 [.ptr 1 0]] [.vec true .obj, .cells 9 [.str]] (fun t u => .fn 41 [.ptr 2 0, .ptr 3 0, .ptr 4 0]) (fun t u => [.vec true ⟨.obj, u.1⟩, .cells 9 [.str u.2.1.1], .cells 67 [.vec 0], .cells 27 [.int .u8 (bind_world_someF t.2.1 u.1 u.2.1.1)], .cells 73 [.fn 39 [.ptr 1 0]]]) (fun t u => []) rfl [0, 1] (by
 intro t u k hk
 simp only [List.mem_cons, List.not_mem_nil, or_false] at hk
 rcases hk with rfl | rfl
 all_goals exact ⟨by decide, rfl⟩)
noncomputable def E_bind_world_get_1 : Env := envOf (P := Tryz.prog) [] [] [] ckf
def bind_world_get_1F (a0 : XObj) (b0 : ByteArray) : Bool :=
 decide (a0.name = b0)
def bind_world_get_1R (a0 : XObj) (b0 : ByteArray) : RT :=
 (.leaf .ret ⟨slots 8 [(3, .bool (decide (a0.name = b0)))], [.cells 9 [.str b0]]⟩ [])
theorem bind_world_get_1F_tr (a0 : XObj) (b0 : ByteArray)  : Tr Tryz.prog 1 (bodyOf Tryz.f39) (fnBegins Tryz.f39 [.agg (oc a0), .ptr 0 0] [.cells 9 [.str b0]]) (fnEnds Tryz.prog Tryz.f39 (.bool (bind_world_get_1F a0 b0)) [.cells 9 [.str b0]]) := by
 refine Tr_tree (kok _ _ _ _ _ _) (E := E_bind_world_get_1) (L := noLoops) 60 9999 LoopsOk.none (bind_world_get_1R a0 b0) (by kernel_rfl) (by kernel_rfl) (by kernel_rfl) ?_
 unfold bind_world_get_1R
 exact ⟨trivial, .inl (by kernel_rfl), by kernel_rfl⟩
noncomputable def bind_world_get_1_fact : Fact Tryz.prog := factOf 39 Tryz.f39 (by kernel_rfl) rfl (by kernel_rfl) [.st .obj, .c (.ptr 0 0)] [.cells 9 [.str]] true (fun t u => .bool (bind_world_get_1F t.1 u.1.1)) (fun t u => HPL.enc _ u) (fun t u => [])
 (fun _ _ _ => rfl) (fun t u => by kernel_rfl) (fun t u => by kernel_rfl) (fun t u h => bind_world_get_1F_tr t.1 u.1.1 )
noncomputable def E_bind_world_get_r : Env := envOf (P := Tryz.prog) [] [] [] ckf
def bind_world_get_rQ (a1 : XObj) (b1 : XObj) (b2 : Bool) : RT :=
 (.leaf .normal ⟨slots 16 [(6, .ptr 1 0), (7, .ptr 2 0), (8, .ptr 3 0)], [.dead, .cells 32 (oc b1), .cells 4 [.bool b2], .cells 32 (oc a1)]⟩ [])
def bind_world_get_rR (a1 : XObj) (b1 : XObj) (b2 : Bool) : RT :=
 (.leaf .ret ⟨slots 16 [], [.dead, .cells 32 (oc a1), .cells 4 [.bool true]]⟩ [])
theorem bind_world_get_r_tr (a1 : XObj) (b1 : XObj) (b2 : Bool)  : Tr Tryz.prog 3 (Globs.site 0).2.1 ⟨slots 16 [(6, .ptr 1 0), (7, .ptr 2 0), (13, .agg (oc a1))], .dead :: [.cells 32 (oc b1), .cells 4 [.bool b2]]⟩ (fun e s1 => e = .normal ∧ Tr Tryz.prog 3 (Globs.site 0).2.2 s1 (rdEnds (true) .ret [.cells 32 (oc a1), .cells 4 [.bool true]] .ret [.cells 32 (oc a1), .cells 4 [.bool true]])) := by
 refine Tr_tree (kok _ _ _ _ _ _) (E := E_bind_world_get_r) (L := noLoops) 60 9999 LoopsOk.none (bind_world_get_rQ a1 b1 b2) (by kernel_rfl) (by kernel_rfl) (by kernel_rfl) ?_
 unfold bind_world_get_rQ
 refine ⟨rfl, ?_⟩
 refine Tr_tree (kok _ _ _ _ _ _) (E := E_bind_world_get_r) (L := noLoops) 60 9999 LoopsOk.none (bind_world_get_rR a1 b1 b2) (by kernel_rfl) (by kernel_rfl) (by kernel_rfl) ?_
 unfold bind_world_get_rR
 exact .inl ⟨rfl, rfl, by kernel_rfl⟩
noncomputable def bind_world_get_r_fact : FactY Tryz.prog := factY 0 [.st .obj] (cpsOf 16 [(6, .ptr 1 0), (7, .ptr 2 0)]) [.st 32 .obj, .cells 4 [.bool]] (fun t u => true) .ret .ret (some (.ret)) (some (.ret)) (fun t u => [.cells 32 (oc t.2.1), .cells 4 [.bool true]]) (fun t u => [.cells 32 (oc t.2.1), .cells 4 [.bool true]]) (fun t u => []) rfl rfl
 (fun t u => by kernel_rfl) (fun t => by kernel_rfl) (fun t u => by kernel_rfl) (fun t u => by kernel_rfl) (fun t u => by kernel_rfl) (fun t u => slots 16 [(6, .ptr 1 0), (7, .ptr 2 0), (13, .agg (oc t.2.1))]) (fun t u => by kernel_rfl) (fun t u h => bind_world_get_r_tr t.2.1 u.2.1 u.2.2.1.1 )
noncomputable def E_bind_world_get_it : Env := envOf (P := Tryz.prog) [bind_world_get_1_fact] [] [] ckf false [bind_world_get_r_fact]
def bind_world_get_itLF (a1 : Int) (a2 : ByteArray) (b0 : List XObj) : List XObj → Bool × XObj
 | [] => (false, default)
 | o :: r => cond (cond ((o.kind) == (bind_world_someF a1 b0 a2)) (bind_world_get_1F o a2) false)
  (true, o)
  (bind_world_get_itLF a1 a2 b0 r)
def bind_world_get_itLS (a1 : Int) (a2 : ByteArray) (b0 : List XObj) (i : Nat) : St :=
 ⟨slots 30 [(0, .yld 7), (2, .ptr 4 0), (3, .ptr 5 0), (8, .vec 0), (9, .int .i64 (b0.length : Int)), (10, .int .i64 (i : Int))], [.vec true ⟨.obj, b0⟩, .cells 32 [.int .u8 0, .str (⟨#[]⟩ : ByteArray), .int .u64 0, .int .u64 0, .bool false, .bool false, .str (⟨#[]⟩ : ByteArray), .int .i64 0, .int .i64 0, .int .u8 0, .bool false, .bool false, .str (⟨#[]⟩ : ByteArray), .str (⟨#[]⟩ : ByteArray), .str (⟨#[]⟩ : ByteArray), .str (⟨#[]⟩ : ByteArray), .str (⟨#[]⟩ : ByteArray), .int .u8 0, .int .u64 0, .int .u64 0], .cells 4 [.bool false], .cells 67 [.vec 0], .cells 27 [.int .u8 (bind_world_someF a1 b0 a2)], .cells 73 [.fn 39 [.ptr 6 0]], .cells 9 [.str a2], .loop 0 (slots 16 [(6, .ptr 1 0), (7, .ptr 2 0)]) none]⟩
def bind_world_get_itLR (a1 : Int) (a2 : ByteArray) (b0 : List XObj) (i : Nat) : RT :=
 (.ask (decide ((i : Int) < (b0.length : Int)))
   (.need [0 ≤ (i : Int) ∧ (i : Int) < (b0.length : Int)]
     (.ask (cond (((b0.getD i default).kind) == (bind_world_someF a1 b0 a2)) (bind_world_get_1F (b0.getD i default) a2) false)
       (.ask true
         (.ask true
           (.leaf .ret ⟨slots 30 [], [.vec true ⟨.obj, b0⟩, .cells 32 (oc (b0.getD i default)), .cells 4 [.bool true], .cells 67 [.vec 0], .cells 27 [.int .u8 (bind_world_someF a1 b0 a2)], .cells 73 [.fn 39 [.ptr 6 0]], .cells 9 [.str a2], .loop 0 (slots 16 [(6, .ptr 1 0), (7, .ptr 2 0)]) (some (.ret))]⟩ [])
           .fail)
         .fail)
       (.ask false
         .fail
         (.leaf .normal ⟨slots 30 [(0, .yld 7), (2, .ptr 4 0), (3, .ptr 5 0), (8, .vec 0), (9, .int .i64 (b0.length : Int)), (10, .int .i64 (IntKind.i64.wrap ((i : Int) + (1 : Int))))], [.vec true ⟨.obj, b0⟩, .cells 32 [.int .u8 0, .str (⟨#[]⟩ : ByteArray), .int .u64 0, .int .u64 0, .bool false, .bool false, .str (⟨#[]⟩ : ByteArray), .int .i64 0, .int .i64 0, .int .u8 0, .bool false, .bool false, .str (⟨#[]⟩ : ByteArray), .str (⟨#[]⟩ : ByteArray), .str (⟨#[]⟩ : ByteArray), .str (⟨#[]⟩ : ByteArray), .str (⟨#[]⟩ : ByteArray), .int .u8 0, .int .u64 0, .int .u64 0], .cells 4 [.bool false], .cells 67 [.vec 0], .cells 27 [.int .u8 (bind_world_someF a1 b0 a2)], .cells 73 [.fn 39 [.ptr 6 0]], .cells 9 [.str a2], .loop 0 (slots 16 [(6, .ptr 1 0), (7, .ptr 2 0)]) none]⟩ []))))
   (.leaf (.exit 0) ⟨slots 30 [], [.vec true ⟨.obj, b0⟩, .cells 32 [.int .u8 0, .str (⟨#[]⟩ : ByteArray), .int .u64 0, .int .u64 0, .bool false, .bool false, .str (⟨#[]⟩ : ByteArray), .int .i64 0, .int .i64 0, .int .u8 0, .bool false, .bool false, .str (⟨#[]⟩ : ByteArray), .str (⟨#[]⟩ : ByteArray), .str (⟨#[]⟩ : ByteArray), .str (⟨#[]⟩ : ByteArray), .str (⟨#[]⟩ : ByteArray), .int .u8 0, .int .u64 0, .int .u64 0], .cells 4 [.bool false], .cells 67 [.vec 0], .cells 27 [.int .u8 (bind_world_someF a1 b0 a2)], .cells 73 [.fn 39 [.ptr 6 0]], .cells 9 [.str a2], .loop 0 (slots 16 [(6, .ptr 1 0), (7, .ptr 2 0)]) none]⟩ []))
def bind_world_get_itLT (a1 : Int) (a2 : ByteArray) (b0 : List XObj) (i : Nat) : Tree :=
 .ask ((bind_world_get_itLF a1 a2 b0 (b0.drop i)).1) (.leaf .ret ⟨slots 30 [], [.vec true ⟨.obj, b0⟩, .cells 32 (oc ((bind_world_get_itLF a1 a2 b0 (b0.drop i)).2)), .cells 4 [.bool true], .cells 67 [.vec 0], .cells 27 [.int .u8 (bind_world_someF a1 b0 a2)], .cells 73 [.fn 39 [.ptr 6 0]], .cells 9 [.str a2], .loop 0 (slots 16 [(6, .ptr 1 0), (7, .ptr 2 0)]) (some (.ret))]⟩) (.leaf (.exit 0) ⟨slots 30 [], [.vec true ⟨.obj, b0⟩, .cells 32 [.int .u8 0, .str (⟨#[]⟩ : ByteArray), .int .u64 0, .int .u64 0, .bool false, .bool false, .str (⟨#[]⟩ : ByteArray), .int .i64 0, .int .i64 0, .int .u8 0, .bool false, .bool false, .str (⟨#[]⟩ : ByteArray), .str (⟨#[]⟩ : ByteArray), .str (⟨#[]⟩ : ByteArray), .str (⟨#[]⟩ : ByteArray), .str (⟨#[]⟩ : ByteArray), .int .u8 0, .int .u64 0, .int .u64 0], .cells 4 [.bool false], .cells 67 [.vec 0], .cells 27 [.int .u8 (bind_world_someF a1 b0 a2)], .cells 73 [.fn 39 [.ptr 6 0]], .cells 9 [.str a2], .loop 0 (slots 16 [(6, .ptr 1 0), (7, .ptr 2 0)]) none]⟩)
theorem bind_world_get_itL_loop (a1 : Int) (a2 : ByteArray) (b0 : List XObj) (hp0 : b0.length < 4611686018427387904) (hp1 : ∀ o ∈ b0, o.Fine) (hlen : b0.length < 4611686018427387904) (z : { z : Nat // z ≤ b0.length }) (Q : Exit → St → Prop) (h : (bind_world_get_itLT a1 a2 b0 z.1).All Q) : Tr Tryz.prog 8 (.loop (loopAt Tryz.f41 0)) (bind_world_get_itLS a1 a2 b0 z.1) Q := by
 refine Tr_loopT (kok _ _ _ _ _ _) (E := E_bind_world_get_it) (ι := { z : Nat // z ≤ b0.length }) 60 0 (fun _ => noLoops) (fun z => bind_world_get_itLS a1 a2 b0 z.1) (fun z => bind_world_get_itLT a1 a2 b0 z.1) (fun z => bind_world_get_itLR a1 a2 b0 z.1) (fun z => b0.length - z.1) (fun _ => LoopsOk.none) (fun z => by obtain ⟨i, hi⟩ := z; kernel_rfl) (fun z => by obtain ⟨i, hi⟩ := z; kernel_rfl) (fun z => by obtain ⟨i, hi⟩ := z; kernel_rfl) ?_ z Q h
 rintro ⟨i, hi⟩ Q hT
 replace hT : (bind_world_get_itLT a1 a2 b0 i).All Q := hT
 replace hi : i ≤ b0.length := hi
 show (bind_world_get_itLR a1 a2 b0 i).All _
 unfold bind_world_get_itLR
 refine ⟨fun h0 => ?_, fun h0 => ?_⟩
 · have hlt : i < b0.length := by simpa using h0
   have hd := drop_getD hlt
   have hw := wrap_succ (i := i) (by omega)
   refine ⟨need_cons (by first | assumption | omega | (intro; omega) | (simp only [decide_eq_true_eq, decide_eq_false_iff_not, Bool.cond_false_right, Bool.cond_true_right, Bool.cond_true_left, Bool.cond_false_left, Bool.and_eq_true, Bool.or_eq_true, Bool.not_eq_true', bytesLim, maxLen, List.length_cons, List.length_nil, List.length_append, byteSize_lit] at *; omega) | (intro; simp only [decide_eq_true_eq, decide_eq_false_iff_not, Bool.cond_false_right, Bool.cond_true_right, Bool.cond_true_left, Bool.cond_false_left, Bool.and_eq_true, Bool.or_eq_true, Bool.not_eq_true', bytesLim, maxLen, List.length_cons, List.length_nil, List.length_append, byteSize_lit] at *; omega)) (need_nil), ?_⟩
   refine ⟨fun h1 => ?_, fun h1 => ?_⟩
   · refine ⟨fun h2 => ?_, fun h2 => ?_⟩
     · refine ⟨fun h3 => ?_, fun h3 => ?_⟩
       · have hF : bind_world_get_itLF a1 a2 b0 (b0.drop i) = (true, (b0.getD i default)) := by rw [hd]; first | exact (cond_t h1 (cond_t h2 (cond_t h3 rfl))) | simp only [bind_world_get_itLF, h0, h1, h2, h3, cond_true, cond_false]
         unfold bind_world_get_itLT at hT
         rw [hF] at hT
         exact hT.1 rfl
       · exact absurd h3 (by simp)
     · exact absurd h2 (by simp)
   · refine ⟨fun h2 => ?_, fun h2 => ?_⟩
     · exact absurd h2 (by simp)
     · have hF : bind_world_get_itLF a1 a2 b0 (b0.drop i) = bind_world_get_itLF a1 a2 b0 (b0.drop (i + 1)) := by rw [hd]; first | exact (cond_f h1 (cond_f h2 rfl)) | simp only [bind_world_get_itLF, h0, h1, h2, cond_true, cond_false]
       refine ⟨⟨(i + 1), by show (i + 1) ≤ b0.length; omega⟩, by show b0.length - (i + 1) < b0.length - i; omega, ?_, ?_⟩
       · show _ = bind_world_get_itLS a1 a2 b0 (i + 1)
         unfold bind_world_get_itLS
         simp only [hw]
       · show (bind_world_get_itLT a1 a2 b0 (i + 1)).All Q
         unfold bind_world_get_itLT at hT ⊢
         rw [hF] at hT
         exact hT
 · have hge : ¬ i < b0.length := by simpa using h0
   have hd : b0.drop i = [] := List.drop_eq_nil_of_le (by omega)
   have hF : bind_world_get_itLF a1 a2 b0 (b0.drop i) = (false, default) := by rw [hd]; first | exact rfl | simp only [bind_world_get_itLF, h0, cond_true, cond_false]
   unfold bind_world_get_itLT at hT
   rw [hF] at hT
   exact hT.2 rfl
def bind_world_get_itS (a1 : Int) (a2 : ByteArray) (b0 : List XObj) : St :=
 ⟨slots 16 [(6, .ptr 1 0), (7, .ptr 2 0), (12, .fn 41 [.ptr 3 0, .ptr 4 0, .ptr 5 0])], [.vec true ⟨.obj, b0⟩, .cells 32 [.int .u8 0, .str (⟨#[]⟩ : ByteArray), .int .u64 0, .int .u64 0, .bool false, .bool false, .str (⟨#[]⟩ : ByteArray), .int .i64 0, .int .i64 0, .int .u8 0, .bool false, .bool false, .str (⟨#[]⟩ : ByteArray), .str (⟨#[]⟩ : ByteArray), .str (⟨#[]⟩ : ByteArray), .str (⟨#[]⟩ : ByteArray), .str (⟨#[]⟩ : ByteArray), .int .u8 0, .int .u64 0, .int .u64 0], .cells 4 [.bool false], .cells 67 [.vec 0], .cells 27 [.int .u8 (bind_world_someF a1 b0 a2)], .cells 73 [.fn 39 [.ptr 6 0]], .cells 9 [.str a2]]⟩
def bind_world_get_itF (a1 : Int) (a2 : ByteArray) (b0 : List XObj) : Bool :=
 cond ((bind_world_get_itLF a1 a2 b0 b0).1)
  true
  false
def bind_world_get_itR (a1 : Int) (a2 : ByteArray) (b0 : List XObj) : RT :=
 (.ask ((bind_world_get_itLF a1 a2 b0 b0).1)
   (.leaf .ret ⟨slots 30 [], [.vec true ⟨.obj, b0⟩, .cells 32 (oc ((bind_world_get_itLF a1 a2 b0 b0).2)), .cells 4 [.bool true], .cells 67 [.vec 0], .cells 27 [.int .u8 (bind_world_someF a1 b0 a2)], .cells 73 [.fn 39 [.ptr 6 0]], .cells 9 [.str a2], .loop 0 (slots 16 [(6, .ptr 1 0), (7, .ptr 2 0)]) (some (.ret))]⟩ [])
   (.leaf .normal ⟨slots 30 [], [.vec true ⟨.obj, b0⟩, .cells 32 [.int .u8 0, .str (⟨#[]⟩ : ByteArray), .int .u64 0, .int .u64 0, .bool false, .bool false, .str (⟨#[]⟩ : ByteArray), .int .i64 0, .int .i64 0, .int .u8 0, .bool false, .bool false, .str (⟨#[]⟩ : ByteArray), .str (⟨#[]⟩ : ByteArray), .str (⟨#[]⟩ : ByteArray), .str (⟨#[]⟩ : ByteArray), .str (⟨#[]⟩ : ByteArray), .int .u8 0, .int .u64 0, .int .u64 0], .cells 4 [.bool false], .cells 67 [.vec 0], .cells 27 [.int .u8 (bind_world_someF a1 b0 a2)], .cells 73 [.fn 39 [.ptr 6 0]], .cells 9 [.str a2], .loop 0 (slots 16 [(6, .ptr 1 0), (7, .ptr 2 0)]) none]⟩ []))
def bind_world_get_itT (a1 : Int) (a2 : ByteArray) (b0 : List XObj) : Tree :=
 .ask (bind_world_get_itF a1 a2 b0) (.leaf .ret ⟨slots 16 [(6, .ptr 1 0), (7, .ptr 2 0), (12, .fn 41 [.ptr 3 0, .ptr 4 0, .ptr 5 0])], [.vec true ⟨.obj, b0⟩, .cells 32 (oc ((bind_world_get_itLF a1 a2 b0 b0).2)), .cells 4 [.bool true], .cells 67 [.vec 0], .cells 27 [.int .u8 (bind_world_someF a1 b0 a2)], .cells 73 [.fn 39 [.ptr 6 0]], .cells 9 [.str a2], .dead]⟩) (.leaf .normal ⟨slots 16 [(6, .ptr 1 0), (7, .ptr 2 0), (12, .fn 41 [.ptr 3 0, .ptr 4 0, .ptr 5 0])], [.vec true ⟨.obj, b0⟩, .cells 32 [.int .u8 0, .str (⟨#[]⟩ : ByteArray), .int .u64 0, .int .u64 0, .bool false, .bool false, .str (⟨#[]⟩ : ByteArray), .int .i64 0, .int .i64 0, .int .u8 0, .bool false, .bool false, .str (⟨#[]⟩ : ByteArray), .str (⟨#[]⟩ : ByteArray), .str (⟨#[]⟩ : ByteArray), .str (⟨#[]⟩ : ByteArray), .str (⟨#[]⟩ : ByteArray), .int .u8 0, .int .u64 0, .int .u64 0], .cells 4 [.bool false], .cells 67 [.vec 0], .cells 27 [.int .u8 (bind_world_someF a1 b0 a2)], .cells 73 [.fn 39 [.ptr 6 0]], .cells 9 [.str a2], .dead]⟩)
theorem bind_world_get_it_rg (a1 : Int) (a2 : ByteArray) (b0 : List XObj) (hp0 : b0.length < 4611686018427387904) (hp1 : ∀ o ∈ b0, o.Fine) (Q : Exit → St → Prop) (hT : (bind_world_get_itT a1 a2 b0).All Q) : Tr Tryz.prog 1 (loopAt Tryz.f14 0) (bind_world_get_itS a1 a2 b0) Q := by
 have hc : loopAt Tryz.f14 0 = .rangeFunc (.tmp 12) (Globs.site 0).1 (Globs.site 0).2.1 (Globs.site 0).2.2 := by kernel_rfl
 rw [hc]
 refine Tr_range (site := 0) (gf := 41) (fn := Tryz.f41) (c := bodyOf Tryz.f41) (cap := [.ptr 3 0, .ptr 4 0, .ptr 5 0]) 7 [6, 7] (slots 16 [(6, .ptr 1 0), (7, .ptr 2 0)]) [.yld 7, .ptr 3 0, .ptr 4 0, .ptr 5 0] [.vec true ⟨.obj, b0⟩, .cells 32 [.int .u8 0, .str (⟨#[]⟩ : ByteArray), .int .u64 0, .int .u64 0, .bool false, .bool false, .str (⟨#[]⟩ : ByteArray), .int .i64 0, .int .i64 0, .int .u8 0, .bool false, .bool false, .str (⟨#[]⟩ : ByteArray), .str (⟨#[]⟩ : ByteArray), .str (⟨#[]⟩ : ByteArray), .str (⟨#[]⟩ : ByteArray), .str (⟨#[]⟩ : ByteArray), .int .u8 0, .int .u64 0, .int .u64 0], .cells 4 [.bool false], .cells 67 [.vec 0], .cells 27 [.int .u8 (bind_world_someF a1 b0 a2)], .cells 73 [.fn 39 [.ptr 6 0]], .cells 9 [.str a2], .loop 0 (slots 16 [(6, .ptr 1 0), (7, .ptr 2 0)]) none] rfl (by kernel_rfl) (by kernel_rfl) rfl (by kernel_rfl) (by kernel_rfl) (by kernel_rfl) (by kernel_rfl) (by kernel_rfl) (by kernel_rfl) (by kernel_rfl) (by kernel_rfl) ?_
 refine Tr_tree (kok _ _ _ _ _ _) (E := E_bind_world_get_it) (L := (loopsOf [(0, bind_world_get_itLS a1 a2 b0 0, [], bind_world_get_itLT a1 a2 b0 0)])) 60 9999 (LoopsOk.one (g := loopAt Tryz.f41 0) (b := 0) (by kernel_rfl) (by kernel_rfl) (by kernel_rfl) (by kernel_rfl) (fun Q h => bind_world_get_itL_loop a1 a2 b0 hp0 hp1 (by first | assumption | omega | exact of_short _ (by first | assumption | omega | exact Nat.le_trans (w12_few_len _) (by decide)) | exact r12_Uniq_short _ (by first | assumption | omega | exact Nat.le_trans (w12_few_len _) (by decide)) | exact Nat.lt_of_le_of_lt (w12_few_len _) (by decide) | decide | (simp only [List.length_append, List.length_cons, List.length_nil]; have := w12_few_len a0; omega)) ⟨0, by first | exact Nat.zero_le _ | (show 0 ≤ b0.length; omega) | (show 0 ≤ b0.length; exact ⟨Nat.zero_le _, by assumption⟩) | (show 0 ≤ b0.length; simp)⟩ Q h)) (bind_world_get_itR a1 a2 b0) (by kernel_rfl) (by kernel_rfl) (by kernel_rfl) ?_
 unfold bind_world_get_itR
 refine ⟨fun h0 => ?_, fun h0 => ?_⟩
 · have hF : bind_world_get_itF a1 a2 b0 = true := by first | exact (cond_t h0 rfl) | simp only [bind_world_get_itF, h0, cond_true, cond_false]
   unfold bind_world_get_itT at hT
   rw [hF] at hT
   exact ⟨⟨trivial, .tup [], by kernel_rfl⟩, (some (.ret)), [.vec true ⟨.obj, b0⟩, .cells 32 (oc ((bind_world_get_itLF a1 a2 b0 b0).2)), .cells 4 [.bool true], .cells 67 [.vec 0], .cells 27 [.int .u8 (bind_world_someF a1 b0 a2)], .cells 73 [.fn 39 [.ptr 6 0]], .cells 9 [.str a2], .dead], by kernel_rfl, rfl, by kernel_rfl, by kernel_rfl, by kernel_rfl, by kernel_rfl, hT.1 rfl⟩
 · have hF : bind_world_get_itF a1 a2 b0 = false := by first | exact (cond_f h0 rfl) | simp only [bind_world_get_itF, h0, cond_true, cond_false]
   unfold bind_world_get_itT at hT
   rw [hF] at hT
   exact ⟨⟨trivial, .tup [], by kernel_rfl⟩, none, [.vec true ⟨.obj, b0⟩, .cells 32 [.int .u8 0, .str (⟨#[]⟩ : ByteArray), .int .u64 0, .int .u64 0, .bool false, .bool false, .str (⟨#[]⟩ : ByteArray), .int .i64 0, .int .i64 0, .int .u8 0, .bool false, .bool false, .str (⟨#[]⟩ : ByteArray), .str (⟨#[]⟩ : ByteArray), .str (⟨#[]⟩ : ByteArray), .str (⟨#[]⟩ : ByteArray), .str (⟨#[]⟩ : ByteArray), .int .u8 0, .int .u64 0, .int .u64 0], .cells 4 [.bool false], .cells 67 [.vec 0], .cells 27 [.int .u8 (bind_world_someF a1 b0 a2)], .cells 73 [.fn 39 [.ptr 6 0]], .cells 9 [.str a2], .dead], by kernel_rfl, rfl, by kernel_rfl, by kernel_rfl, by kernel_rfl, by kernel_rfl, hT.2 rfl⟩
noncomputable def E_bind_world_get : Env := envOf (P := Tryz.prog) [bind_world_some_fact] [] [] ckf
def bind_world_getF (a1 : Int) (a2 : ByteArray) (b0 : List XObj) : XObj × Bool :=
 cond (bind_world_get_itF a1 a2 b0)
  (((bind_world_get_itLF a1 a2 b0 b0).2), true)
  ((default : XObj), false)
def bind_world_getR (a1 : Int) (a2 : ByteArray) (b0 : List XObj) : RT :=
 (.ask (bind_world_get_itF a1 a2 b0)
   (.leaf .ret ⟨slots 16 [(6, .ptr 1 0), (7, .ptr 2 0)], [.vec true ⟨.obj, b0⟩, .cells 32 (oc ((bind_world_get_itLF a1 a2 b0 b0).2)), .cells 4 [.bool true]]⟩ [])
   (.leaf .ret ⟨slots 16 [(6, .ptr 1 0), (7, .ptr 2 0)], [.vec true ⟨.obj, b0⟩, .cells 32 [.int .u8 0, .str (⟨#[]⟩ : ByteArray), .int .u64 0, .int .u64 0, .bool false, .bool false, .str (⟨#[]⟩ : ByteArray), .int .i64 0, .int .i64 0, .int .u8 0, .bool false, .bool false, .str (⟨#[]⟩ : ByteArray), .str (⟨#[]⟩ : ByteArray), .str (⟨#[]⟩ : ByteArray), .str (⟨#[]⟩ : ByteArray), .str (⟨#[]⟩ : ByteArray), .int .u8 0, .int .u64 0, .int .u64 0], .cells 4 [.bool false]]⟩ []))
theorem bind_world_getF_tr (a1 : Int) (a2 : ByteArray) (b0 : List XObj) (hp0 : b0.length < 4611686018427387904) (hp1 : ∀ o ∈ b0, o.Fine) : Tr Tryz.prog 1 (bodyOf Tryz.f14) (fnBegins Tryz.f14 [.agg [.vec 0], .int .u8 a1, .str a2] [.vec true ⟨.obj, b0⟩]) (fnEnds Tryz.prog Tryz.f14 (.tup [.agg (oc ((bind_world_getF a1 a2 b0).1)), .bool ((bind_world_getF a1 a2 b0).2)]) [.vec true ⟨.obj, b0⟩]) := by
 refine Tr_tree (kok _ _ _ _ _ _) (E := E_bind_world_get) (L := (loopsOf [(0, bind_world_get_itS a1 a2 b0, [0, 3, 4, 5, 6, 7, 2], bind_world_get_itT a1 a2 b0)])) 60 9999 (LoopsOk.oneR (g := loopAt Tryz.f14 0) (b := 0) (by kernel_rfl) (by kernel_rfl) (by kernel_rfl) (by kernel_rfl) (fun Q h => bind_world_get_it_rg a1 a2 b0 hp0 hp1 Q h)) (bind_world_getR a1 a2 b0) (by kernel_rfl) (by kernel_rfl) (by kernel_rfl) ?_
 unfold bind_world_getR
 refine ⟨fun h0 => ?_, fun h0 => ?_⟩
 · have hF : bind_world_getF a1 a2 b0 = (((bind_world_get_itLF a1 a2 b0 b0).2), true) := by first | exact (cond_t h0 rfl) | simp only [bind_world_getF, h0, cond_true, cond_false]
   exact ⟨trivial, .inl (by first | (rw [hF]; kernel_rfl) | kernel_rfl), by first | (rw [hF]; kernel_rfl) | kernel_rfl⟩
 · have hF : bind_world_getF a1 a2 b0 = ((default : XObj), false) := by first | exact (cond_f h0 rfl) | simp only [bind_world_getF, h0, cond_true, cond_false]
   exact ⟨trivial, .inl (by first | (rw [hF]; kernel_rfl) | kernel_rfl), by first | (rw [hF]; kernel_rfl) | kernel_rfl⟩
noncomputable def bind_world_get_fact : Fact Tryz.prog := factOf 14 Tryz.f14 (by kernel_rfl) rfl (by kernel_rfl) [.agg [.vec 0], .c (.int .u8), .c (.str)] [.vec true .obj] true (fun t u => .tup [.agg (oc ((bind_world_getF t.2.1 t.2.2.1 u.1).1)), .bool ((bind_world_getF t.2.1 t.2.2.1 u.1).2)]) (fun t u => HPL.enc _ u) (fun t u => [u.1.length < 4611686018427387904, ∀ o ∈ u.1, o.Fine])
 (fun _ _ _ => rfl) (fun t u => by kernel_rfl) (fun t u => by kernel_rfl) (fun t u h => bind_world_getF_tr t.2.1 t.2.2.1 u.1 (h _ List.mem_cons_self) (h _ (List.mem_cons_of_mem _ List.mem_cons_self)))
end Go.Proofs.YtkledlcmhbjadaaGreatDoor
