/- Bind: what is looked for. -/
import Derived.Test.YtkledlcmhbjadaaGreatDoorDRef
set_option linter.unusedVariables false
set_option linter.unusedSimpArgs false
set_option maxRecDepth 100000
namespace Go.Proofs.YtkledlcmhbjadaaGreatDoor
open Go Go.Eng
noncomputable def Z24e : Env := Z57 (P := Tryz.prog) [] [] [] ckf
def Z30 (a1 : Int) (b0 : List XObj) (b1 : ByteArray) : Int :=
 a1
def Z170 (a1 : Int) (b0 : List XObj) (b1 : ByteArray) : RT :=
 (.leaf .ret ⟨Z9 8 [(6, .fn 41 [.ptr 2 0, .ptr 3 0, .ptr 4 0])], [.vec true ⟨.obj, b0⟩, .cells 9 [.str b1], .cells 67 [.vec 0], .cells 27 [.int .u8 a1], .cells 73 [.fn 39 [.ptr 1 0]]]⟩ [])
theorem Z1ee (a1 : Int) (b0 : List XObj) (b1 : ByteArray)  : Tr Tryz.prog 2 (Z3a Tryz.f20) (Z1f Tryz.f20 [.agg [.vec 0], .int .u8 a1, .fn 39 [.ptr 1 0]] [.vec true ⟨.obj, b0⟩, .cells 9 [.str b1]]) (Z4a Tryz.prog Tryz.f20 (.fn 41 [.ptr 2 0, .ptr 3 0, .ptr 4 0]) [.vec true ⟨.obj, b0⟩, .cells 9 [.str b1], .cells 67 [.vec 0], .cells 27 [.int .u8 (Z30 a1 b0 b1)], .cells 73 [.fn 39 [.ptr 1 0]]]) := by
 refine Z20 (kok _ _ _ _ _ _) (E := Z24e) (L := Z2a) 60 9999 Z14.none (Z170 a1 b0 b1) (by kernel_rfl) (by kernel_rfl) (by kernel_rfl) ?_
 unfold Z170
 exact ⟨trivial, .inl (by kernel_rfl), by kernel_rfl⟩
noncomputable def Z19f : Fact Tryz.prog := Z50 20 Tryz.f20 (by kernel_rfl) rfl (by kernel_rfl) [.agg [.vec 0], .c (.int .u8), .fn 39 [.ptr 1 0]] [.vec true .obj, .cells 9 [.str]] false (fun t u => .fn 41 [.ptr 2 0, .ptr 3 0, .ptr 4 0]) (fun t u => [.vec true ⟨.obj, u.1⟩, .cells 9 [.str u.2.1.1], .cells 67 [.vec 0], .cells 27 [.int .u8 (Z30 t.2.1 u.1 u.2.1.1)], .cells 73 [.fn 39 [.ptr 1 0]]]) (fun t u => [])
 (nofun) (fun t u => by kernel_rfl) (fun t u => by kernel_rfl) (fun t u h => Z1ee t.2.1 u.1 u.2.1.1 )
noncomputable def Z1c7 : Fact Tryz.prog := Z9f Z19f [.agg [.vec 0], .c (.int .u8), .fn 39 [.ptr 1 0]] [.vec true .obj, .cells 9 [.str]] (fun t u => .fn 41 [.ptr 2 0, .ptr 3 0, .ptr 4 0]) (fun t u => [.vec true ⟨.obj, u.1⟩, .cells 9 [.str u.2.1.1], .cells 67 [.vec 0], .cells 27 [.int .u8 (Z30 t.2.1 u.1 u.2.1.1)], .cells 73 [.fn 39 [.ptr 1 0]]]) (fun t u => []) rfl [0, 1] (by
 intro t u k hk
 simp only [List.mem_cons, List.not_mem_nil, or_false] at hk
 rcases hk with rfl | rfl
 all_goals exact ⟨by decide, rfl⟩)
noncomputable def Z22d : Env := Z57 (P := Tryz.prog) [] [] [] ckf
def Z9b (a0 : XObj) (b0 : ByteArray) : Bool :=
 decide (a0.name = b0)
def Z146 (a0 : XObj) (b0 : ByteArray) : RT :=
 (.leaf .ret ⟨Z9 8 [(3, .bool (decide (a0.name = b0)))], [.cells 9 [.str b0]]⟩ [])
theorem Z1c9 (a0 : XObj) (b0 : ByteArray)  : Tr Tryz.prog 1 (Z3a Tryz.f39) (Z1f Tryz.f39 [.agg (oc a0), .ptr 0 0] [.cells 9 [.str b0]]) (Z4a Tryz.prog Tryz.f39 (.bool (Z9b a0 b0)) [.cells 9 [.str b0]]) := by
 refine Z20 (kok _ _ _ _ _ _) (E := Z22d) (L := Z2a) 60 9999 Z14.none (Z146 a0 b0) (by kernel_rfl) (by kernel_rfl) (by kernel_rfl) ?_
 unfold Z146
 exact ⟨trivial, .inl (by kernel_rfl), by kernel_rfl⟩
noncomputable def Z1a8 : Fact Tryz.prog := Z50 39 Tryz.f39 (by kernel_rfl) rfl (by kernel_rfl) [.st .obj, .c (.ptr 0 0)] [.cells 9 [.str]] true (fun t u => .bool (Z9b t.1 u.1.1)) (fun t u => HPL.enc _ u) (fun t u => [])
 (fun _ _ _ => rfl) (fun t u => by kernel_rfl) (fun t u => by kernel_rfl) (fun t u h => Z1c9 t.1 u.1.1 )
noncomputable def Z124 : Env := Z57 (P := Tryz.prog) [] [] [] ckf
def Z145 (a1 : XObj) (b1 : XObj) (b2 : Bool) : RT :=
 (.leaf .normal ⟨Z9 16 [(6, .ptr 1 0), (7, .ptr 2 0), (8, .ptr 3 0)], [.dead, .cells 32 (oc b1), .cells 4 [.bool b2], .cells 32 (oc a1)]⟩ [])
def Z144 (a1 : XObj) (b1 : XObj) (b2 : Bool) : RT :=
 (.leaf .ret ⟨Z9 16 [], [.dead, .cells 32 (oc a1), .cells 4 [.bool true]]⟩ [])
theorem Z1f1 (a1 : XObj) (b1 : XObj) (b2 : Bool)  : Tr Tryz.prog 3 (Globs.site 0).2.1 ⟨Z9 16 [(6, .ptr 1 0), (7, .ptr 2 0), (13, .agg (oc a1))], .dead :: [.cells 32 (oc b1), .cells 4 [.bool b2]]⟩ (fun e s1 => e = .normal ∧ Tr Tryz.prog 3 (Globs.site 0).2.2 s1 (rdEnds (true) .ret [.cells 32 (oc a1), .cells 4 [.bool true]] .ret [.cells 32 (oc a1), .cells 4 [.bool true]])) := by
 refine Z20 (kok _ _ _ _ _ _) (E := Z124) (L := Z2a) 60 9999 Z14.none (Z145 a1 b1 b2) (by kernel_rfl) (by kernel_rfl) (by kernel_rfl) ?_
 unfold Z145
 refine ⟨rfl, ?_⟩
 refine Z20 (kok _ _ _ _ _ _) (E := Z124) (L := Z2a) 60 9999 Z14.none (Z144 a1 b1 b2) (by kernel_rfl) (by kernel_rfl) (by kernel_rfl) ?_
 unfold Z144
 exact .inl ⟨rfl, rfl, by kernel_rfl⟩
noncomputable def Z1a7 : FactY Tryz.prog := factY 0 [.st .obj] (cpsOf 16 [(6, .ptr 1 0), (7, .ptr 2 0)]) [.st 32 .obj, .cells 4 [.bool]] (fun t u => true) .ret .ret (some (.ret)) (some (.ret)) (fun t u => [.cells 32 (oc t.2.1), .cells 4 [.bool true]]) (fun t u => [.cells 32 (oc t.2.1), .cells 4 [.bool true]]) (fun t u => []) rfl rfl
 (fun t u => by kernel_rfl) (fun t => by kernel_rfl) (fun t u => by kernel_rfl) (fun t u => by kernel_rfl) (fun t u => by kernel_rfl) (fun t u => Z9 16 [(6, .ptr 1 0), (7, .ptr 2 0), (13, .agg (oc t.2.1))]) (fun t u => by kernel_rfl) (fun t u h => Z1f1 t.2.1 u.2.1 u.2.2.1.1 )
noncomputable def Z10f : Env := Z57 (P := Tryz.prog) [Z1a8] [] [] ckf false [Z1a7]
def Z19 (a1 : Int) (a2 : ByteArray) (b0 : List XObj) : List XObj → Bool × XObj
 | [] => (false, default)
 | o :: r => cond (cond ((o.kind) == (Z30 a1 b0 a2)) (Z9b o a2) false)
  (true, o)
  (Z19 a1 a2 b0 r)
def Z89 (a1 : Int) (a2 : ByteArray) (b0 : List XObj) (i : Nat) : St :=
 ⟨Z9 30 [(0, .yld 7), (2, .ptr 4 0), (3, .ptr 5 0), (8, .vec 0), (9, .int .i64 (b0.length : Int)), (10, .int .i64 (i : Int))], [.vec true ⟨.obj, b0⟩, .cells 32 [.int .u8 0, .str (⟨#[]⟩ : ByteArray), .int .u64 0, .int .u64 0, .bool false, .bool false, .str (⟨#[]⟩ : ByteArray), .int .i64 0, .int .i64 0, .int .u8 0, .bool false, .bool false, .str (⟨#[]⟩ : ByteArray), .str (⟨#[]⟩ : ByteArray), .str (⟨#[]⟩ : ByteArray), .str (⟨#[]⟩ : ByteArray), .str (⟨#[]⟩ : ByteArray), .int .u8 0, .int .u64 0, .int .u64 0], .cells 4 [.bool false], .cells 67 [.vec 0], .cells 27 [.int .u8 (Z30 a1 b0 a2)], .cells 73 [.fn 39 [.ptr 6 0]], .cells 9 [.str a2], .loop 0 (Z9 16 [(6, .ptr 1 0), (7, .ptr 2 0)]) none]⟩
def Zb6 (a1 : Int) (a2 : ByteArray) (b0 : List XObj) (i : Nat) : RT :=
 (.ask (decide ((i : Int) < (b0.length : Int)))
   (.need [0 ≤ (i : Int) ∧ (i : Int) < (b0.length : Int)]
     (.ask (cond (((b0.getD i default).kind) == (Z30 a1 b0 a2)) (Z9b (b0.getD i default) a2) false)
       (.ask true
         (.ask true
           (.leaf .ret ⟨Z9 30 [], [.vec true ⟨.obj, b0⟩, .cells 32 (oc (b0.getD i default)), .cells 4 [.bool true], .cells 67 [.vec 0], .cells 27 [.int .u8 (Z30 a1 b0 a2)], .cells 73 [.fn 39 [.ptr 6 0]], .cells 9 [.str a2], .loop 0 (Z9 16 [(6, .ptr 1 0), (7, .ptr 2 0)]) (some (.ret))]⟩ [])
           .fail)
         .fail)
       (.ask false
         .fail
         (.leaf .normal ⟨Z9 30 [(0, .yld 7), (2, .ptr 4 0), (3, .ptr 5 0), (8, .vec 0), (9, .int .i64 (b0.length : Int)), (10, .int .i64 (IntKind.i64.wrap ((i : Int) + (1 : Int))))], [.vec true ⟨.obj, b0⟩, .cells 32 [.int .u8 0, .str (⟨#[]⟩ : ByteArray), .int .u64 0, .int .u64 0, .bool false, .bool false, .str (⟨#[]⟩ : ByteArray), .int .i64 0, .int .i64 0, .int .u8 0, .bool false, .bool false, .str (⟨#[]⟩ : ByteArray), .str (⟨#[]⟩ : ByteArray), .str (⟨#[]⟩ : ByteArray), .str (⟨#[]⟩ : ByteArray), .str (⟨#[]⟩ : ByteArray), .int .u8 0, .int .u64 0, .int .u64 0], .cells 4 [.bool false], .cells 67 [.vec 0], .cells 27 [.int .u8 (Z30 a1 b0 a2)], .cells 73 [.fn 39 [.ptr 6 0]], .cells 9 [.str a2], .loop 0 (Z9 16 [(6, .ptr 1 0), (7, .ptr 2 0)]) none]⟩ []))))
   (.leaf (.exit 0) ⟨Z9 30 [], [.vec true ⟨.obj, b0⟩, .cells 32 [.int .u8 0, .str (⟨#[]⟩ : ByteArray), .int .u64 0, .int .u64 0, .bool false, .bool false, .str (⟨#[]⟩ : ByteArray), .int .i64 0, .int .i64 0, .int .u8 0, .bool false, .bool false, .str (⟨#[]⟩ : ByteArray), .str (⟨#[]⟩ : ByteArray), .str (⟨#[]⟩ : ByteArray), .str (⟨#[]⟩ : ByteArray), .str (⟨#[]⟩ : ByteArray), .int .u8 0, .int .u64 0, .int .u64 0], .cells 4 [.bool false], .cells 67 [.vec 0], .cells 27 [.int .u8 (Z30 a1 b0 a2)], .cells 73 [.fn 39 [.ptr 6 0]], .cells 9 [.str a2], .loop 0 (Z9 16 [(6, .ptr 1 0), (7, .ptr 2 0)]) none]⟩ []))
def Z5f (a1 : Int) (a2 : ByteArray) (b0 : List XObj) (i : Nat) : Tree :=
 .ask ((Z19 a1 a2 b0 (b0.drop i)).1) (.leaf .ret ⟨Z9 30 [], [.vec true ⟨.obj, b0⟩, .cells 32 (oc ((Z19 a1 a2 b0 (b0.drop i)).2)), .cells 4 [.bool true], .cells 67 [.vec 0], .cells 27 [.int .u8 (Z30 a1 b0 a2)], .cells 73 [.fn 39 [.ptr 6 0]], .cells 9 [.str a2], .loop 0 (Z9 16 [(6, .ptr 1 0), (7, .ptr 2 0)]) (some (.ret))]⟩) (.leaf (.exit 0) ⟨Z9 30 [], [.vec true ⟨.obj, b0⟩, .cells 32 [.int .u8 0, .str (⟨#[]⟩ : ByteArray), .int .u64 0, .int .u64 0, .bool false, .bool false, .str (⟨#[]⟩ : ByteArray), .int .i64 0, .int .i64 0, .int .u8 0, .bool false, .bool false, .str (⟨#[]⟩ : ByteArray), .str (⟨#[]⟩ : ByteArray), .str (⟨#[]⟩ : ByteArray), .str (⟨#[]⟩ : ByteArray), .str (⟨#[]⟩ : ByteArray), .int .u8 0, .int .u64 0, .int .u64 0], .cells 4 [.bool false], .cells 67 [.vec 0], .cells 27 [.int .u8 (Z30 a1 b0 a2)], .cells 73 [.fn 39 [.ptr 6 0]], .cells 9 [.str a2], .loop 0 (Z9 16 [(6, .ptr 1 0), (7, .ptr 2 0)]) none]⟩)
theorem Z167 (a1 : Int) (a2 : ByteArray) (b0 : List XObj) (hp0 : b0.length < 4611686018427387904) (hp1 : ∀ o ∈ b0, o.Fine) (hlen : b0.length < 4611686018427387904) (z : { z : Nat // z ≤ b0.length }) (Q : Exit → St → Prop) (h : (Z5f a1 a2 b0 z.1).All Q) : Tr Tryz.prog 8 (.loop (Z49 Tryz.f41 0)) (Z89 a1 a2 b0 z.1) Q := by
 refine Z98 (kok _ _ _ _ _ _) (E := Z10f) (ι := { z : Nat // z ≤ b0.length }) 60 0 (fun _ => Z2a) (fun z => Z89 a1 a2 b0 z.1) (fun z => Z5f a1 a2 b0 z.1) (fun z => Zb6 a1 a2 b0 z.1) (fun z => b0.length - z.1) (fun _ => Z14.none) (fun z => by obtain ⟨i, hi⟩ := z; kernel_rfl) (fun z => by obtain ⟨i, hi⟩ := z; kernel_rfl) (fun z => by obtain ⟨i, hi⟩ := z; kernel_rfl) ?_ z Q h
 rintro ⟨i, hi⟩ Q hT
 replace hT : (Z5f a1 a2 b0 i).All Q := hT
 replace hi : i ≤ b0.length := hi
 show (Zb6 a1 a2 b0 i).All _
 unfold Zb6
 refine ⟨fun h0 => ?_, fun h0 => ?_⟩
 · have hlt : i < b0.length := by simpa using h0
   have hd := Z8e hlt
   have hw := Z85 (i := i) (by omega)
   refine ⟨Z6 (by first | assumption | omega | (intro; omega) | (simp only [decide_eq_true_eq, decide_eq_false_iff_not, Bool.cond_false_right, Bool.cond_true_right, Bool.cond_true_left, Bool.cond_false_left, Bool.and_eq_true, Bool.or_eq_true, Bool.not_eq_true', Z35, maxLen, List.length_cons, List.length_nil, List.length_append, Z28] at *; omega) | (intro; simp only [decide_eq_true_eq, decide_eq_false_iff_not, Bool.cond_false_right, Bool.cond_true_right, Bool.cond_true_left, Bool.cond_false_left, Bool.and_eq_true, Bool.or_eq_true, Bool.not_eq_true', Z35, maxLen, List.length_cons, List.length_nil, List.length_append, Z28] at *; omega)) (Z10), ?_⟩
   refine ⟨fun h1 => ?_, fun h1 => ?_⟩
   · refine ⟨fun h2 => ?_, fun h2 => ?_⟩
     · refine ⟨fun h3 => ?_, fun h3 => ?_⟩
       · have hF : Z19 a1 a2 b0 (b0.drop i) = (true, (b0.getD i default)) := by rw [hd]; first | exact (Zb h1 (Zb h2 (Zb h3 rfl))) | simp only [Z19, h0, h1, h2, h3, cond_true, cond_false]
         unfold Z5f at hT
         rw [hF] at hT
         exact hT.1 rfl
       · exact absurd h3 (by simp)
     · exact absurd h2 (by simp)
   · refine ⟨fun h2 => ?_, fun h2 => ?_⟩
     · exact absurd h2 (by simp)
     · have hF : Z19 a1 a2 b0 (b0.drop i) = Z19 a1 a2 b0 (b0.drop (i + 1)) := by rw [hd]; first | exact (Z5 h1 (Z5 h2 rfl)) | simp only [Z19, h0, h1, h2, cond_true, cond_false]
       refine ⟨⟨(i + 1), by show (i + 1) ≤ b0.length; omega⟩, by show b0.length - (i + 1) < b0.length - i; omega, ?_, ?_⟩
       · show _ = Z89 a1 a2 b0 (i + 1)
         unfold Z89
         simp only [hw]
       · show (Z5f a1 a2 b0 (i + 1)).All Q
         unfold Z5f at hT ⊢
         rw [hF] at hT
         exact hT
 · have hge : ¬ i < b0.length := by simpa using h0
   have hd : b0.drop i = [] := List.drop_eq_nil_of_le (by omega)
   have hF : Z19 a1 a2 b0 (b0.drop i) = (false, default) := by rw [hd]; first | exact rfl | simp only [Z19, h0, cond_true, cond_false]
   unfold Z5f at hT
   rw [hF] at hT
   exact hT.2 rfl
def Z11e (a1 : Int) (a2 : ByteArray) (b0 : List XObj) : St :=
 ⟨Z9 16 [(6, .ptr 1 0), (7, .ptr 2 0), (12, .fn 41 [.ptr 3 0, .ptr 4 0, .ptr 5 0])], [.vec true ⟨.obj, b0⟩, .cells 32 [.int .u8 0, .str (⟨#[]⟩ : ByteArray), .int .u64 0, .int .u64 0, .bool false, .bool false, .str (⟨#[]⟩ : ByteArray), .int .i64 0, .int .i64 0, .int .u8 0, .bool false, .bool false, .str (⟨#[]⟩ : ByteArray), .str (⟨#[]⟩ : ByteArray), .str (⟨#[]⟩ : ByteArray), .str (⟨#[]⟩ : ByteArray), .str (⟨#[]⟩ : ByteArray), .int .u8 0, .int .u64 0, .int .u64 0], .cells 4 [.bool false], .cells 67 [.vec 0], .cells 27 [.int .u8 (Z30 a1 b0 a2)], .cells 73 [.fn 39 [.ptr 6 0]], .cells 9 [.str a2]]⟩
def Z67 (a1 : Int) (a2 : ByteArray) (b0 : List XObj) : Bool :=
 cond ((Z19 a1 a2 b0 b0).1)
  true
  false
def Z11f (a1 : Int) (a2 : ByteArray) (b0 : List XObj) : RT :=
 (.ask ((Z19 a1 a2 b0 b0).1)
   (.leaf .ret ⟨Z9 30 [], [.vec true ⟨.obj, b0⟩, .cells 32 (oc ((Z19 a1 a2 b0 b0).2)), .cells 4 [.bool true], .cells 67 [.vec 0], .cells 27 [.int .u8 (Z30 a1 b0 a2)], .cells 73 [.fn 39 [.ptr 6 0]], .cells 9 [.str a2], .loop 0 (Z9 16 [(6, .ptr 1 0), (7, .ptr 2 0)]) (some (.ret))]⟩ [])
   (.leaf .normal ⟨Z9 30 [], [.vec true ⟨.obj, b0⟩, .cells 32 [.int .u8 0, .str (⟨#[]⟩ : ByteArray), .int .u64 0, .int .u64 0, .bool false, .bool false, .str (⟨#[]⟩ : ByteArray), .int .i64 0, .int .i64 0, .int .u8 0, .bool false, .bool false, .str (⟨#[]⟩ : ByteArray), .str (⟨#[]⟩ : ByteArray), .str (⟨#[]⟩ : ByteArray), .str (⟨#[]⟩ : ByteArray), .str (⟨#[]⟩ : ByteArray), .int .u8 0, .int .u64 0, .int .u64 0], .cells 4 [.bool false], .cells 67 [.vec 0], .cells 27 [.int .u8 (Z30 a1 b0 a2)], .cells 73 [.fn 39 [.ptr 6 0]], .cells 9 [.str a2], .loop 0 (Z9 16 [(6, .ptr 1 0), (7, .ptr 2 0)]) none]⟩ []))
def Za3 (a1 : Int) (a2 : ByteArray) (b0 : List XObj) : Tree :=
 .ask (Z67 a1 a2 b0) (.leaf .ret ⟨Z9 16 [(6, .ptr 1 0), (7, .ptr 2 0), (12, .fn 41 [.ptr 3 0, .ptr 4 0, .ptr 5 0])], [.vec true ⟨.obj, b0⟩, .cells 32 (oc ((Z19 a1 a2 b0 b0).2)), .cells 4 [.bool true], .cells 67 [.vec 0], .cells 27 [.int .u8 (Z30 a1 b0 a2)], .cells 73 [.fn 39 [.ptr 6 0]], .cells 9 [.str a2], .dead]⟩) (.leaf .normal ⟨Z9 16 [(6, .ptr 1 0), (7, .ptr 2 0), (12, .fn 41 [.ptr 3 0, .ptr 4 0, .ptr 5 0])], [.vec true ⟨.obj, b0⟩, .cells 32 [.int .u8 0, .str (⟨#[]⟩ : ByteArray), .int .u64 0, .int .u64 0, .bool false, .bool false, .str (⟨#[]⟩ : ByteArray), .int .i64 0, .int .i64 0, .int .u8 0, .bool false, .bool false, .str (⟨#[]⟩ : ByteArray), .str (⟨#[]⟩ : ByteArray), .str (⟨#[]⟩ : ByteArray), .str (⟨#[]⟩ : ByteArray), .str (⟨#[]⟩ : ByteArray), .int .u8 0, .int .u64 0, .int .u64 0], .cells 4 [.bool false], .cells 67 [.vec 0], .cells 27 [.int .u8 (Z30 a1 b0 a2)], .cells 73 [.fn 39 [.ptr 6 0]], .cells 9 [.str a2], .dead]⟩)
theorem Z1c8 (a1 : Int) (a2 : ByteArray) (b0 : List XObj) (hp0 : b0.length < 4611686018427387904) (hp1 : ∀ o ∈ b0, o.Fine) (Q : Exit → St → Prop) (hT : (Za3 a1 a2 b0).All Q) : Tr Tryz.prog 1 (Z49 Tryz.f14 0) (Z11e a1 a2 b0) Q := by
 have hc : Z49 Tryz.f14 0 = .rangeFunc (.tmp 12) (Globs.site 0).1 (Globs.site 0).2.1 (Globs.site 0).2.2 := by kernel_rfl
 rw [hc]
 refine Zc6 (site := 0) (gf := 41) (fn := Tryz.f41) (c := Z3a Tryz.f41) (cap := [.ptr 3 0, .ptr 4 0, .ptr 5 0]) 7 [6, 7] (Z9 16 [(6, .ptr 1 0), (7, .ptr 2 0)]) [.yld 7, .ptr 3 0, .ptr 4 0, .ptr 5 0] [.vec true ⟨.obj, b0⟩, .cells 32 [.int .u8 0, .str (⟨#[]⟩ : ByteArray), .int .u64 0, .int .u64 0, .bool false, .bool false, .str (⟨#[]⟩ : ByteArray), .int .i64 0, .int .i64 0, .int .u8 0, .bool false, .bool false, .str (⟨#[]⟩ : ByteArray), .str (⟨#[]⟩ : ByteArray), .str (⟨#[]⟩ : ByteArray), .str (⟨#[]⟩ : ByteArray), .str (⟨#[]⟩ : ByteArray), .int .u8 0, .int .u64 0, .int .u64 0], .cells 4 [.bool false], .cells 67 [.vec 0], .cells 27 [.int .u8 (Z30 a1 b0 a2)], .cells 73 [.fn 39 [.ptr 6 0]], .cells 9 [.str a2], .loop 0 (Z9 16 [(6, .ptr 1 0), (7, .ptr 2 0)]) none] rfl (by kernel_rfl) (by kernel_rfl) rfl (by kernel_rfl) (by kernel_rfl) (by kernel_rfl) (by kernel_rfl) (by kernel_rfl) (by kernel_rfl) (by kernel_rfl) (by kernel_rfl) ?_
 refine Z20 (kok _ _ _ _ _ _) (E := Z10f) (L := (Z61 [(0, Z89 a1 a2 b0 0, [], Z5f a1 a2 b0 0)])) 60 9999 (Z14.one (g := Z49 Tryz.f41 0) (b := 0) (by kernel_rfl) (by kernel_rfl) (by kernel_rfl) (by kernel_rfl) (fun Q h => Z167 a1 a2 b0 hp0 hp1 (by first | assumption | omega | exact Z6d _ (by first | assumption | omega | exact Nat.le_trans (w12_few_len _) (by decide)) | exact r12_Uniq_short _ (by first | assumption | omega | exact Nat.le_trans (w12_few_len _) (by decide)) | exact Nat.lt_of_le_of_lt (w12_few_len _) (by decide) | decide | (simp only [List.length_append, List.length_cons, List.length_nil]; have := w12_few_len a0; omega)) ⟨0, by first | exact Nat.zero_le _ | (show 0 ≤ b0.length; omega) | (show 0 ≤ b0.length; exact ⟨Nat.zero_le _, by assumption⟩) | (show 0 ≤ b0.length; simp)⟩ Q h)) (Z11f a1 a2 b0) (by kernel_rfl) (by kernel_rfl) (by kernel_rfl) ?_
 unfold Z11f
 refine ⟨fun h0 => ?_, fun h0 => ?_⟩
 · have hF : Z67 a1 a2 b0 = true := by first | exact (Zb h0 rfl) | simp only [Z67, h0, cond_true, cond_false]
   unfold Za3 at hT
   rw [hF] at hT
   exact ⟨⟨trivial, .tup [], by kernel_rfl⟩, (some (.ret)), [.vec true ⟨.obj, b0⟩, .cells 32 (oc ((Z19 a1 a2 b0 b0).2)), .cells 4 [.bool true], .cells 67 [.vec 0], .cells 27 [.int .u8 (Z30 a1 b0 a2)], .cells 73 [.fn 39 [.ptr 6 0]], .cells 9 [.str a2], .dead], by kernel_rfl, rfl, by kernel_rfl, by kernel_rfl, by kernel_rfl, by kernel_rfl, hT.1 rfl⟩
 · have hF : Z67 a1 a2 b0 = false := by first | exact (Z5 h0 rfl) | simp only [Z67, h0, cond_true, cond_false]
   unfold Za3 at hT
   rw [hF] at hT
   exact ⟨⟨trivial, .tup [], by kernel_rfl⟩, none, [.vec true ⟨.obj, b0⟩, .cells 32 [.int .u8 0, .str (⟨#[]⟩ : ByteArray), .int .u64 0, .int .u64 0, .bool false, .bool false, .str (⟨#[]⟩ : ByteArray), .int .i64 0, .int .i64 0, .int .u8 0, .bool false, .bool false, .str (⟨#[]⟩ : ByteArray), .str (⟨#[]⟩ : ByteArray), .str (⟨#[]⟩ : ByteArray), .str (⟨#[]⟩ : ByteArray), .str (⟨#[]⟩ : ByteArray), .int .u8 0, .int .u64 0, .int .u64 0], .cells 4 [.bool false], .cells 67 [.vec 0], .cells 27 [.int .u8 (Z30 a1 b0 a2)], .cells 73 [.fn 39 [.ptr 6 0]], .cells 9 [.str a2], .dead], by kernel_rfl, rfl, by kernel_rfl, by kernel_rfl, by kernel_rfl, by kernel_rfl, hT.2 rfl⟩
noncomputable def Z27b : Env := Z57 (P := Tryz.prog) [Z1c7] [] [] ckf
def Z1 (a1 : Int) (a2 : ByteArray) (b0 : List XObj) : XObj × Bool :=
 cond (Z67 a1 a2 b0)
  (((Z19 a1 a2 b0 b0).2), true)
  ((default : XObj), false)
def Z1a9 (a1 : Int) (a2 : ByteArray) (b0 : List XObj) : RT :=
 (.ask (Z67 a1 a2 b0)
   (.leaf .ret ⟨Z9 16 [(6, .ptr 1 0), (7, .ptr 2 0)], [.vec true ⟨.obj, b0⟩, .cells 32 (oc ((Z19 a1 a2 b0 b0).2)), .cells 4 [.bool true]]⟩ [])
   (.leaf .ret ⟨Z9 16 [(6, .ptr 1 0), (7, .ptr 2 0)], [.vec true ⟨.obj, b0⟩, .cells 32 [.int .u8 0, .str (⟨#[]⟩ : ByteArray), .int .u64 0, .int .u64 0, .bool false, .bool false, .str (⟨#[]⟩ : ByteArray), .int .i64 0, .int .i64 0, .int .u8 0, .bool false, .bool false, .str (⟨#[]⟩ : ByteArray), .str (⟨#[]⟩ : ByteArray), .str (⟨#[]⟩ : ByteArray), .str (⟨#[]⟩ : ByteArray), .str (⟨#[]⟩ : ByteArray), .int .u8 0, .int .u64 0, .int .u64 0], .cells 4 [.bool false]]⟩ []))
theorem Z216 (a1 : Int) (a2 : ByteArray) (b0 : List XObj) (hp0 : b0.length < 4611686018427387904) (hp1 : ∀ o ∈ b0, o.Fine) : Tr Tryz.prog 1 (Z3a Tryz.f14) (Z1f Tryz.f14 [.agg [.vec 0], .int .u8 a1, .str a2] [.vec true ⟨.obj, b0⟩]) (Z4a Tryz.prog Tryz.f14 (.tup [.agg (oc ((Z1 a1 a2 b0).1)), .bool ((Z1 a1 a2 b0).2)]) [.vec true ⟨.obj, b0⟩]) := by
 refine Z20 (kok _ _ _ _ _ _) (E := Z27b) (L := (Z61 [(0, Z11e a1 a2 b0, [0, 3, 4, 5, 6, 7, 2], Za3 a1 a2 b0)])) 60 9999 (Z14.oneR (g := Z49 Tryz.f14 0) (b := 0) (by kernel_rfl) (by kernel_rfl) (by kernel_rfl) (by kernel_rfl) (fun Q h => Z1c8 a1 a2 b0 hp0 hp1 Q h)) (Z1a9 a1 a2 b0) (by kernel_rfl) (by kernel_rfl) (by kernel_rfl) ?_
 unfold Z1a9
 refine ⟨fun h0 => ?_, fun h0 => ?_⟩
 · have hF : Z1 a1 a2 b0 = (((Z19 a1 a2 b0 b0).2), true) := by first | exact (Zb h0 rfl) | simp only [Z1, h0, cond_true, cond_false]
   exact ⟨trivial, .inl (by first | (rw [hF]; kernel_rfl) | kernel_rfl), by first | (rw [hF]; kernel_rfl) | kernel_rfl⟩
 · have hF : Z1 a1 a2 b0 = ((default : XObj), false) := by first | exact (Z5 h0 rfl) | simp only [Z1, h0, cond_true, cond_false]
   exact ⟨trivial, .inl (by first | (rw [hF]; kernel_rfl) | kernel_rfl), by first | (rw [hF]; kernel_rfl) | kernel_rfl⟩
noncomputable def Z69 : Fact Tryz.prog := Z50 14 Tryz.f14 (by kernel_rfl) rfl (by kernel_rfl) [.agg [.vec 0], .c (.int .u8), .c (.str)] [.vec true .obj] true (fun t u => .tup [.agg (oc ((Z1 t.2.1 t.2.2.1 u.1).1)), .bool ((Z1 t.2.1 t.2.2.1 u.1).2)]) (fun t u => HPL.enc _ u) (fun t u => [u.1.length < 4611686018427387904, ∀ o ∈ u.1, o.Fine])
 (fun _ _ _ => rfl) (fun t u => by kernel_rfl) (fun t u => by kernel_rfl) (fun t u h => Z216 t.2.1 t.2.2.1 u.1 (h _ List.mem_cons_self) (h _ (List.mem_cons_of_mem _ List.mem_cons_self)))
end Go.Proofs.YtkledlcmhbjadaaGreatDoor
