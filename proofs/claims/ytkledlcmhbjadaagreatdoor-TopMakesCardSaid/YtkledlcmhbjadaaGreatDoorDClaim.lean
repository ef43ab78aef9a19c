/- Bind: what is done next for a claim. -/
import Derived.Test.YtkledlcmhbjadaaGreatDoorDHB
set_option linter.unusedVariables false
set_option linter.unusedSimpArgs false
set_option maxRecDepth 100000
namespace Go.Proofs.YtkledlcmhbjadaaGreatDoor
open Go Go.Eng
noncomputable def Z1fb : Env := Z57 (P := Tryz.prog) [] [] [] ckf
def Z27 (a1 : Int) (b0 : List XObj) (b1 : XObj) : Int :=
 a1
def Z11d (a1 : Int) (b0 : List XObj) (b1 : XObj) : RT :=
 (.leaf .ret ⟨Z9 8 [(6, .fn 41 [.ptr 2 0, .ptr 3 0, .ptr 4 0])], [.vec true ⟨.obj, b0⟩, .cells 32 (oc b1), .cells 67 [.vec 0], .cells 27 [.int .u8 a1], .cells 73 [.fn 17 [.ptr 1 0]]]⟩ [])
theorem Z1a6 (a1 : Int) (b0 : List XObj) (b1 : XObj)  : Tr Tryz.prog 2 (Z3a Tryz.f20) (Z1f Tryz.f20 [.agg [.vec 0], .int .u8 a1, .fn 17 [.ptr 1 0]] [.vec true ⟨.obj, b0⟩, .cells 32 (oc b1)]) (Z4a Tryz.prog Tryz.f20 (.fn 41 [.ptr 2 0, .ptr 3 0, .ptr 4 0]) [.vec true ⟨.obj, b0⟩, .cells 32 (oc b1), .cells 67 [.vec 0], .cells 27 [.int .u8 (Z27 a1 b0 b1)], .cells 73 [.fn 17 [.ptr 1 0]]]) := by
 refine Z20 (kok _ _ _ _ _ _) (E := Z1fb) (L := Z2a) 60 9999 Z14.none (Z11d a1 b0 b1) (by kernel_rfl) (by kernel_rfl) (by kernel_rfl) ?_
 unfold Z11d
 exact ⟨trivial, .inl (by kernel_rfl), by kernel_rfl⟩
noncomputable def Z166 : Fact Tryz.prog := Z50 20 Tryz.f20 (by kernel_rfl) rfl (by kernel_rfl) [.agg [.vec 0], .c (.int .u8), .fn 17 [.ptr 1 0]] [.vec true .obj, .st 32 .obj] false (fun t u => .fn 41 [.ptr 2 0, .ptr 3 0, .ptr 4 0]) (fun t u => [.vec true ⟨.obj, u.1⟩, .cells 32 (oc u.2.1), .cells 67 [.vec 0], .cells 27 [.int .u8 (Z27 t.2.1 u.1 u.2.1)], .cells 73 [.fn 17 [.ptr 1 0]]]) (fun t u => [])
 (nofun) (fun t u => by kernel_rfl) (fun t u => by kernel_rfl) (fun t u h => Z1a6 t.2.1 u.1 u.2.1 )
noncomputable def Z17d : Fact Tryz.prog := Z9f Z166 [.agg [.vec 0], .c (.int .u8), .fn 17 [.ptr 1 0]] [.vec true .obj, .st 32 .obj] (fun t u => .fn 41 [.ptr 2 0, .ptr 3 0, .ptr 4 0]) (fun t u => [.vec true ⟨.obj, u.1⟩, .cells 32 (oc u.2.1), .cells 67 [.vec 0], .cells 27 [.int .u8 (Z27 t.2.1 u.1 u.2.1)], .cells 73 [.fn 17 [.ptr 1 0]]]) (fun t u => []) rfl [0, 1] (by
 intro t u k hk
 simp only [List.mem_cons, List.not_mem_nil, or_false] at hk
 rcases hk with rfl | rfl
 all_goals exact ⟨by decide, rfl⟩)
noncomputable def E_bind_Claim_1 : Env := Z57 (P := Tryz.prog) [] [] [] ckf
def Zfb (a0 : XObj) (b0 : XObj) : Bool :=
 decide (a0.claim = b0.name)
def Z221 (a0 : XObj) (b0 : XObj) : RT :=
 (.leaf .ret ⟨Z9 9 [(3, .bool (decide (a0.claim = b0.name)))], [.cells 32 (oc b0)]⟩ [])
theorem Z276 (a0 : XObj) (b0 : XObj)  : Tr Tryz.prog 1 (Z3a Tryz.f17) (Z1f Tryz.f17 [.agg (oc a0), .ptr 0 0] [.cells 32 (oc b0)]) (Z4a Tryz.prog Tryz.f17 (.bool (Zfb a0 b0)) [.cells 32 (oc b0)]) := by
 refine Z20 (kok _ _ _ _ _ _) (E := E_bind_Claim_1) (L := Z2a) 60 9999 Z14.none (Z221 a0 b0) (by kernel_rfl) (by kernel_rfl) (by kernel_rfl) ?_
 unfold Z221
 exact ⟨trivial, .inl (by kernel_rfl), by kernel_rfl⟩
noncomputable def Z24b : Fact Tryz.prog := Z50 17 Tryz.f17 (by kernel_rfl) rfl (by kernel_rfl) [.st .obj, .c (.ptr 0 0)] [.st 32 .obj] true (fun t u => .bool (Zfb t.1 u.1)) (fun t u => HPL.enc _ u) (fun t u => [])
 (fun _ _ _ => rfl) (fun t u => by kernel_rfl) (fun t u => by kernel_rfl) (fun t u h => Z276 t.1 u.1 )
noncomputable def Z125 : Env := Z57 (P := Tryz.prog) [] [] [] ckf
def Z148 (a1 : XObj) (b1 : Bool) : RT :=
 (.leaf .normal ⟨Z9 12 [(6, .ptr 1 0)], [.dead, .cells 4 [.bool b1]]⟩ [])
def Z147 (a1 : XObj) (b1 : Bool) : RT :=
 (.leaf .ret ⟨Z9 12 [], [.dead, .cells 4 [.bool true]]⟩ [])
theorem Z1f2 (a1 : XObj) (b1 : Bool)  : Tr Tryz.prog 2 (Globs.site 1).2.1 ⟨Z9 12 [(6, .ptr 1 0), (11, .agg (oc a1))], .dead :: [.cells 4 [.bool b1]]⟩ (fun e s1 => e = .normal ∧ Tr Tryz.prog 2 (Globs.site 1).2.2 s1 (rdEnds (true) .ret [.cells 4 [.bool true]] .ret [.cells 4 [.bool true]])) := by
 refine Z20 (kok _ _ _ _ _ _) (E := Z125) (L := Z2a) 60 9999 Z14.none (Z148 a1 b1) (by kernel_rfl) (by kernel_rfl) (by kernel_rfl) ?_
 unfold Z148
 refine ⟨rfl, ?_⟩
 refine Z20 (kok _ _ _ _ _ _) (E := Z125) (L := Z2a) 60 9999 Z14.none (Z147 a1 b1) (by kernel_rfl) (by kernel_rfl) (by kernel_rfl) ?_
 unfold Z147
 exact .inl ⟨rfl, rfl, by kernel_rfl⟩
noncomputable def Z7d : FactY Tryz.prog := factY 1 [.st .obj] (cpsOf 12 [(6, .ptr 1 0)]) [.cells 4 [.bool]] (fun t u => true) .ret .ret (some (.ret)) (some (.ret)) (fun t u => [.cells 4 [.bool true]]) (fun t u => [.cells 4 [.bool true]]) (fun t u => []) rfl rfl
 (fun t u => by kernel_rfl) (fun t => by kernel_rfl) (fun t u => by kernel_rfl) (fun t u => by kernel_rfl) (fun t u => by kernel_rfl) (fun t u => Z9 12 [(6, .ptr 1 0), (11, .agg (oc t.2.1))]) (fun t u => by kernel_rfl) (fun t u h => Z1f2 t.2.1 u.2.1.1 )
noncomputable def Z110 : Env := Z57 (P := Tryz.prog) [Z24b] [] [] ckf false [Z7d]
def Z48 (a1 : Int) (b0 : List XObj) (b1 : XObj) : List XObj → Bool
 | [] => false
 | o :: r => cond (cond ((o.kind) == (Z27 a1 b0 b1)) (Zfb o b1) false)
  true
  (Z48 a1 b0 b1 r)
def Z8a (a1 : Int) (b0 : List XObj) (b1 : XObj) (i : Nat) : St :=
 ⟨Z9 30 [(0, .yld 6), (2, .ptr 4 0), (3, .ptr 5 0), (8, .vec 0), (9, .int .i64 (b0.length : Int)), (10, .int .i64 (i : Int))], [.vec true ⟨.obj, b0⟩, .cells 32 (oc b1), .cells 4 [.bool false], .cells 67 [.vec 0], .cells 27 [.int .u8 (Z27 a1 b0 b1)], .cells 73 [.fn 17 [.ptr 1 0]], .loop 1 (Z9 12 [(6, .ptr 2 0)]) none]⟩
def Zb7 (a1 : Int) (b0 : List XObj) (b1 : XObj) (i : Nat) : RT :=
 (.ask (decide ((i : Int) < (b0.length : Int)))
   (.need [0 ≤ (i : Int) ∧ (i : Int) < (b0.length : Int)]
     (.ask (cond (((b0.getD i default).kind) == (Z27 a1 b0 b1)) (Zfb (b0.getD i default) b1) false)
       (.ask true
         (.ask true
           (.leaf .ret ⟨Z9 30 [], [.vec true ⟨.obj, b0⟩, .cells 32 (oc b1), .cells 4 [.bool true], .cells 67 [.vec 0], .cells 27 [.int .u8 (Z27 a1 b0 b1)], .cells 73 [.fn 17 [.ptr 1 0]], .loop 1 (Z9 12 [(6, .ptr 2 0)]) (some (.ret))]⟩ [])
           .fail)
         .fail)
       (.ask false
         .fail
         (.leaf .normal ⟨Z9 30 [(0, .yld 6), (2, .ptr 4 0), (3, .ptr 5 0), (8, .vec 0), (9, .int .i64 (b0.length : Int)), (10, .int .i64 (IntKind.i64.wrap ((i : Int) + (1 : Int))))], [.vec true ⟨.obj, b0⟩, .cells 32 (oc b1), .cells 4 [.bool false], .cells 67 [.vec 0], .cells 27 [.int .u8 (Z27 a1 b0 b1)], .cells 73 [.fn 17 [.ptr 1 0]], .loop 1 (Z9 12 [(6, .ptr 2 0)]) none]⟩ []))))
   (.leaf (.exit 0) ⟨Z9 30 [], [.vec true ⟨.obj, b0⟩, .cells 32 (oc b1), .cells 4 [.bool false], .cells 67 [.vec 0], .cells 27 [.int .u8 (Z27 a1 b0 b1)], .cells 73 [.fn 17 [.ptr 1 0]], .loop 1 (Z9 12 [(6, .ptr 2 0)]) none]⟩ []))
def Z60 (a1 : Int) (b0 : List XObj) (b1 : XObj) (i : Nat) : Tree :=
 .ask (Z48 a1 b0 b1 (b0.drop i)) (.leaf .ret ⟨Z9 30 [], [.vec true ⟨.obj, b0⟩, .cells 32 (oc b1), .cells 4 [.bool true], .cells 67 [.vec 0], .cells 27 [.int .u8 (Z27 a1 b0 b1)], .cells 73 [.fn 17 [.ptr 1 0]], .loop 1 (Z9 12 [(6, .ptr 2 0)]) (some (.ret))]⟩) (.leaf (.exit 0) ⟨Z9 30 [], [.vec true ⟨.obj, b0⟩, .cells 32 (oc b1), .cells 4 [.bool false], .cells 67 [.vec 0], .cells 27 [.int .u8 (Z27 a1 b0 b1)], .cells 73 [.fn 17 [.ptr 1 0]], .loop 1 (Z9 12 [(6, .ptr 2 0)]) none]⟩)
theorem Z168 (a1 : Int) (b0 : List XObj) (b1 : XObj) (hp0 : b0.length < 4611686018427387904) (hp1 : ∀ o ∈ b0, o.Fine) (hlen : b0.length < 4611686018427387904) (z : { z : Nat // z ≤ b0.length }) (Q : Exit → St → Prop) (h : (Z60 a1 b0 b1 z.1).All Q) : Tr Tryz.prog 7 (.loop (Z49 Tryz.f41 0)) (Z8a a1 b0 b1 z.1) Q := by
 refine Z98 (kok _ _ _ _ _ _) (E := Z110) (ι := { z : Nat // z ≤ b0.length }) 60 0 (fun _ => Z2a) (fun z => Z8a a1 b0 b1 z.1) (fun z => Z60 a1 b0 b1 z.1) (fun z => Zb7 a1 b0 b1 z.1) (fun z => b0.length - z.1) (fun _ => Z14.none) (fun z => by obtain ⟨i, hi⟩ := z; kernel_rfl) (fun z => by obtain ⟨i, hi⟩ := z; kernel_rfl) (fun z => by obtain ⟨i, hi⟩ := z; kernel_rfl) ?_ z Q h
 rintro ⟨i, hi⟩ Q hT
 replace hT : (Z60 a1 b0 b1 i).All Q := hT
 replace hi : i ≤ b0.length := hi
 show (Zb7 a1 b0 b1 i).All _
 unfold Zb7
 refine ⟨fun h0 => ?_, fun h0 => ?_⟩
 · have hlt : i < b0.length := by simpa using h0
   have hd := Z8e hlt
   have hw := Z85 (i := i) (by omega)
   refine ⟨Z6 (by first | assumption | omega | (intro; omega) | (simp only [decide_eq_true_eq, decide_eq_false_iff_not, Bool.cond_false_right, Bool.cond_true_right, Bool.cond_true_left, Bool.cond_false_left, Bool.and_eq_true, Bool.or_eq_true, Bool.not_eq_true', Z35, maxLen, List.length_cons, List.length_nil, List.length_append, Z28] at *; omega) | (intro; simp only [decide_eq_true_eq, decide_eq_false_iff_not, Bool.cond_false_right, Bool.cond_true_right, Bool.cond_true_left, Bool.cond_false_left, Bool.and_eq_true, Bool.or_eq_true, Bool.not_eq_true', Z35, maxLen, List.length_cons, List.length_nil, List.length_append, Z28] at *; omega)) (Z10), ?_⟩
   refine ⟨fun h1 => ?_, fun h1 => ?_⟩
   · refine ⟨fun h2 => ?_, fun h2 => ?_⟩
     · refine ⟨fun h3 => ?_, fun h3 => ?_⟩
       · have hF : Z48 a1 b0 b1 (b0.drop i) = true := by rw [hd]; first | exact (Zb h1 (Zb h2 (Zb h3 rfl))) | simp only [Z48, h0, h1, h2, h3, cond_true, cond_false]
         unfold Z60 at hT
         rw [hF] at hT
         exact hT.1 rfl
       · exact absurd h3 (by simp)
     · exact absurd h2 (by simp)
   · refine ⟨fun h2 => ?_, fun h2 => ?_⟩
     · exact absurd h2 (by simp)
     · have hF : Z48 a1 b0 b1 (b0.drop i) = Z48 a1 b0 b1 (b0.drop (i + 1)) := by rw [hd]; first | exact (Z5 h1 (Z5 h2 rfl)) | simp only [Z48, h0, h1, h2, cond_true, cond_false]
       refine ⟨⟨(i + 1), by show (i + 1) ≤ b0.length; omega⟩, by show b0.length - (i + 1) < b0.length - i; omega, ?_, ?_⟩
       · show _ = Z8a a1 b0 b1 (i + 1)
         unfold Z8a
         simp only [hw]
       · show (Z60 a1 b0 b1 (i + 1)).All Q
         unfold Z60 at hT ⊢
         rw [hF] at hT
         exact hT
 · have hge : ¬ i < b0.length := by simpa using h0
   have hd : b0.drop i = [] := List.drop_eq_nil_of_le (by omega)
   have hF : Z48 a1 b0 b1 (b0.drop i) = false := by rw [hd]; first | exact rfl | simp only [Z48, h0, cond_true, cond_false]
   unfold Z60 at hT
   rw [hF] at hT
   exact hT.2 rfl
def Z121 (a1 : Int) (b0 : List XObj) (b1 : XObj) : St :=
 ⟨Z9 12 [(6, .ptr 2 0), (10, .fn 41 [.ptr 3 0, .ptr 4 0, .ptr 5 0])], [.vec true ⟨.obj, b0⟩, .cells 32 (oc b1), .cells 4 [.bool false], .cells 67 [.vec 0], .cells 27 [.int .u8 (Z27 a1 b0 b1)], .cells 73 [.fn 17 [.ptr 1 0]]]⟩
def Z72 (a1 : Int) (b0 : List XObj) (b1 : XObj) : Bool :=
 cond (Z48 a1 b0 b1 b0)
  true
  false
def Z122 (a1 : Int) (b0 : List XObj) (b1 : XObj) : RT :=
 (.ask (Z48 a1 b0 b1 b0)
   (.leaf .ret ⟨Z9 30 [], [.vec true ⟨.obj, b0⟩, .cells 32 (oc b1), .cells 4 [.bool true], .cells 67 [.vec 0], .cells 27 [.int .u8 (Z27 a1 b0 b1)], .cells 73 [.fn 17 [.ptr 1 0]], .loop 1 (Z9 12 [(6, .ptr 2 0)]) (some (.ret))]⟩ [])
   (.leaf .normal ⟨Z9 30 [], [.vec true ⟨.obj, b0⟩, .cells 32 (oc b1), .cells 4 [.bool false], .cells 67 [.vec 0], .cells 27 [.int .u8 (Z27 a1 b0 b1)], .cells 73 [.fn 17 [.ptr 1 0]], .loop 1 (Z9 12 [(6, .ptr 2 0)]) none]⟩ []))
def Za4 (a1 : Int) (b0 : List XObj) (b1 : XObj) : Tree :=
 .ask (Z72 a1 b0 b1) (.leaf .ret ⟨Z9 12 [(6, .ptr 2 0), (10, .fn 41 [.ptr 3 0, .ptr 4 0, .ptr 5 0])], [.vec true ⟨.obj, b0⟩, .cells 32 (oc b1), .cells 4 [.bool true], .cells 67 [.vec 0], .cells 27 [.int .u8 (Z27 a1 b0 b1)], .cells 73 [.fn 17 [.ptr 1 0]], .dead]⟩) (.leaf .normal ⟨Z9 12 [(6, .ptr 2 0), (10, .fn 41 [.ptr 3 0, .ptr 4 0, .ptr 5 0])], [.vec true ⟨.obj, b0⟩, .cells 32 (oc b1), .cells 4 [.bool false], .cells 67 [.vec 0], .cells 27 [.int .u8 (Z27 a1 b0 b1)], .cells 73 [.fn 17 [.ptr 1 0]], .dead]⟩)
theorem Z1ca (a1 : Int) (b0 : List XObj) (b1 : XObj) (hp0 : b0.length < 4611686018427387904) (hp1 : ∀ o ∈ b0, o.Fine) (Q : Exit → St → Prop) (hT : (Za4 a1 b0 b1).All Q) : Tr Tryz.prog 2 (Z49 Tryz.f16 0) (Z121 a1 b0 b1) Q := by
 have hc : Z49 Tryz.f16 0 = .rangeFunc (.tmp 10) (Globs.site 1).1 (Globs.site 1).2.1 (Globs.site 1).2.2 := by kernel_rfl
 rw [hc]
 refine Zc6 (site := 1) (gf := 41) (fn := Tryz.f41) (c := Z3a Tryz.f41) (cap := [.ptr 3 0, .ptr 4 0, .ptr 5 0]) 6 [6] (Z9 12 [(6, .ptr 2 0)]) [.yld 6, .ptr 3 0, .ptr 4 0, .ptr 5 0] [.vec true ⟨.obj, b0⟩, .cells 32 (oc b1), .cells 4 [.bool false], .cells 67 [.vec 0], .cells 27 [.int .u8 (Z27 a1 b0 b1)], .cells 73 [.fn 17 [.ptr 1 0]], .loop 1 (Z9 12 [(6, .ptr 2 0)]) none] rfl (by kernel_rfl) (by kernel_rfl) rfl (by kernel_rfl) (by kernel_rfl) (by kernel_rfl) (by kernel_rfl) (by kernel_rfl) (by kernel_rfl) (by kernel_rfl) (by kernel_rfl) ?_
 refine Z20 (kok _ _ _ _ _ _) (E := Z110) (L := (Z61 [(0, Z8a a1 b0 b1 0, [], Z60 a1 b0 b1 0)])) 60 9999 (Z14.one (g := Z49 Tryz.f41 0) (b := 0) (by kernel_rfl) (by kernel_rfl) (by kernel_rfl) (by kernel_rfl) (fun Q h => Z168 a1 b0 b1 hp0 hp1 (by first | assumption | omega | exact Z6d _ (by first | assumption | omega | exact Nat.le_trans (w12_few_len _) (by decide)) | exact r12_Uniq_short _ (by first | assumption | omega | exact Nat.le_trans (w12_few_len _) (by decide)) | exact Nat.lt_of_le_of_lt (w12_few_len _) (by decide) | decide | (simp only [List.length_append, List.length_cons, List.length_nil]; have := w12_few_len a0; omega)) ⟨0, by first | exact Nat.zero_le _ | (show 0 ≤ b0.length; omega) | (show 0 ≤ b0.length; exact ⟨Nat.zero_le _, by assumption⟩) | (show 0 ≤ b0.length; simp)⟩ Q h)) (Z122 a1 b0 b1) (by kernel_rfl) (by kernel_rfl) (by kernel_rfl) ?_
 unfold Z122
 refine ⟨fun h0 => ?_, fun h0 => ?_⟩
 · have hF : Z72 a1 b0 b1 = true := by first | exact (Zb h0 rfl) | simp only [Z72, h0, cond_true, cond_false]
   unfold Za4 at hT
   rw [hF] at hT
   exact ⟨⟨trivial, .tup [], by kernel_rfl⟩, (some (.ret)), [.vec true ⟨.obj, b0⟩, .cells 32 (oc b1), .cells 4 [.bool true], .cells 67 [.vec 0], .cells 27 [.int .u8 (Z27 a1 b0 b1)], .cells 73 [.fn 17 [.ptr 1 0]], .dead], by kernel_rfl, rfl, by kernel_rfl, by kernel_rfl, by kernel_rfl, by kernel_rfl, hT.1 rfl⟩
 · have hF : Z72 a1 b0 b1 = false := by first | exact (Z5 h0 rfl) | simp only [Z72, h0, cond_true, cond_false]
   unfold Za4 at hT
   rw [hF] at hT
   exact ⟨⟨trivial, .tup [], by kernel_rfl⟩, none, [.vec true ⟨.obj, b0⟩, .cells 32 (oc b1), .cells 4 [.bool false], .cells 67 [.vec 0], .cells 27 [.int .u8 (Z27 a1 b0 b1)], .cells 73 [.fn 17 [.ptr 1 0]], .dead], by kernel_rfl, rfl, by kernel_rfl, by kernel_rfl, by kernel_rfl, by kernel_rfl, hT.2 rfl⟩
noncomputable def Z27c : Env := Z57 (P := Tryz.prog) [Z17d] [] [] ckf
def Z4f (a1 : Int) (b0 : List XObj) (b1 : XObj) : Bool :=
 cond (Z72 a1 b0 b1)
  true
  false
def Z1ae (a1 : Int) (b0 : List XObj) (b1 : XObj) : RT :=
 (.ask (Z72 a1 b0 b1)
   (.leaf .ret ⟨Z9 12 [(6, .ptr 2 0)], [.vec true ⟨.obj, b0⟩, .cells 32 (oc b1), .cells 4 [.bool true]]⟩ [])
   (.leaf .ret ⟨Z9 12 [(6, .ptr 2 0)], [.vec true ⟨.obj, b0⟩, .cells 32 (oc b1), .cells 4 [.bool false]]⟩ []))
theorem Z217 (a1 : Int) (b0 : List XObj) (b1 : XObj) (hp0 : b0.length < 4611686018427387904) (hp1 : ∀ o ∈ b0, o.Fine) : Tr Tryz.prog 2 (Z3a Tryz.f16) (Z1f Tryz.f16 [.agg [.vec 0], .int .u8 a1, .fn 17 [.ptr 1 0]] [.vec true ⟨.obj, b0⟩, .cells 32 (oc b1)]) (Z4a Tryz.prog Tryz.f16 (.bool (Z4f a1 b0 b1)) [.vec true ⟨.obj, b0⟩, .cells 32 (oc b1)]) := by
 refine Z20 (kok _ _ _ _ _ _) (E := Z27c) (L := (Z61 [(0, Z121 a1 b0 b1, [0, 1, 3, 4, 5, 6], Za4 a1 b0 b1)])) 60 9999 (Z14.oneR (g := Z49 Tryz.f16 0) (b := 0) (by kernel_rfl) (by kernel_rfl) (by kernel_rfl) (by kernel_rfl) (fun Q h => Z1ca a1 b0 b1 hp0 hp1 Q h)) (Z1ae a1 b0 b1) (by kernel_rfl) (by kernel_rfl) (by kernel_rfl) ?_
 unfold Z1ae
 refine ⟨fun h0 => ?_, fun h0 => ?_⟩
 · have hF : Z4f a1 b0 b1 = true := by first | exact (Zb h0 rfl) | simp only [Z4f, h0, cond_true, cond_false]
   exact ⟨trivial, .inl (by first | (rw [hF]; kernel_rfl) | kernel_rfl), by first | (rw [hF]; kernel_rfl) | kernel_rfl⟩
 · have hF : Z4f a1 b0 b1 = false := by first | exact (Z5 h0 rfl) | simp only [Z4f, h0, cond_true, cond_false]
   exact ⟨trivial, .inl (by first | (rw [hF]; kernel_rfl) | kernel_rfl), by first | (rw [hF]; kernel_rfl) | kernel_rfl⟩
noncomputable def Z109 : Fact Tryz.prog := Z50 16 Tryz.f16 (by kernel_rfl) rfl (by kernel_rfl) [.agg [.vec 0], .c (.int .u8), .fn 17 [.ptr 1 0]] [.vec true .obj, .st 32 .obj] true (fun t u => .bool (Z4f t.2.1 u.1 u.2.1)) (fun t u => HPL.enc _ u) (fun t u => [u.1.length < 4611686018427387904, ∀ o ∈ u.1, o.Fine])
 (fun _ _ _ => rfl) (fun t u => by kernel_rfl) (fun t u => by kernel_rfl) (fun t u h => Z217 t.2.1 u.1 u.2.1 (h _ List.mem_cons_self) (h _ (List.mem_cons_of_mem _ List.mem_cons_self)))
noncomputable def Z1fa : Env := Z57 (P := Tryz.prog) [] [] [] ckf
def Z26 (a1 : Int) (b0 : List XObj) (b1 : XObj) : Int :=
 a1
def Z11c (a1 : Int) (b0 : List XObj) (b1 : XObj) : RT :=
 (.leaf .ret ⟨Z9 8 [(6, .fn 41 [.ptr 2 0, .ptr 3 0, .ptr 4 0])], [.vec true ⟨.obj, b0⟩, .cells 32 (oc b1), .cells 67 [.vec 0], .cells 27 [.int .u8 a1], .cells 73 [.fn 18 [.ptr 1 0]]]⟩ [])
theorem Z1a5 (a1 : Int) (b0 : List XObj) (b1 : XObj)  : Tr Tryz.prog 2 (Z3a Tryz.f20) (Z1f Tryz.f20 [.agg [.vec 0], .int .u8 a1, .fn 18 [.ptr 1 0]] [.vec true ⟨.obj, b0⟩, .cells 32 (oc b1)]) (Z4a Tryz.prog Tryz.f20 (.fn 41 [.ptr 2 0, .ptr 3 0, .ptr 4 0]) [.vec true ⟨.obj, b0⟩, .cells 32 (oc b1), .cells 67 [.vec 0], .cells 27 [.int .u8 (Z26 a1 b0 b1)], .cells 73 [.fn 18 [.ptr 1 0]]]) := by
 refine Z20 (kok _ _ _ _ _ _) (E := Z1fa) (L := Z2a) 60 9999 Z14.none (Z11c a1 b0 b1) (by kernel_rfl) (by kernel_rfl) (by kernel_rfl) ?_
 unfold Z11c
 exact ⟨trivial, .inl (by kernel_rfl), by kernel_rfl⟩
noncomputable def Z165 : Fact Tryz.prog := Z50 20 Tryz.f20 (by kernel_rfl) rfl (by kernel_rfl) [.agg [.vec 0], .c (.int .u8), .fn 18 [.ptr 1 0]] [.vec true .obj, .st 32 .obj] false (fun t u => .fn 41 [.ptr 2 0, .ptr 3 0, .ptr 4 0]) (fun t u => [.vec true ⟨.obj, u.1⟩, .cells 32 (oc u.2.1), .cells 67 [.vec 0], .cells 27 [.int .u8 (Z26 t.2.1 u.1 u.2.1)], .cells 73 [.fn 18 [.ptr 1 0]]]) (fun t u => [])
 (nofun) (fun t u => by kernel_rfl) (fun t u => by kernel_rfl) (fun t u h => Z1a5 t.2.1 u.1 u.2.1 )
noncomputable def Z17c : Fact Tryz.prog := Z9f Z165 [.agg [.vec 0], .c (.int .u8), .fn 18 [.ptr 1 0]] [.vec true .obj, .st 32 .obj] (fun t u => .fn 41 [.ptr 2 0, .ptr 3 0, .ptr 4 0]) (fun t u => [.vec true ⟨.obj, u.1⟩, .cells 32 (oc u.2.1), .cells 67 [.vec 0], .cells 27 [.int .u8 (Z26 t.2.1 u.1 u.2.1)], .cells 73 [.fn 18 [.ptr 1 0]]]) (fun t u => []) rfl [0, 1] (by
 intro t u k hk
 simp only [List.mem_cons, List.not_mem_nil, or_false] at hk
 rcases hk with rfl | rfl
 all_goals exact ⟨by decide, rfl⟩)
noncomputable def E_bind_Claim_2 : Env := Z57 (P := Tryz.prog) [] [] [] ckf
def Zfa (a0 : XObj) (b0 : XObj) : Bool :=
 decide (a0.volume = b0.volume)
def Z220 (a0 : XObj) (b0 : XObj) : RT :=
 (.leaf .ret ⟨Z9 9 [(3, .bool (decide (a0.volume = b0.volume)))], [.cells 32 (oc b0)]⟩ [])
theorem Z275 (a0 : XObj) (b0 : XObj)  : Tr Tryz.prog 1 (Z3a Tryz.f18) (Z1f Tryz.f18 [.agg (oc a0), .ptr 0 0] [.cells 32 (oc b0)]) (Z4a Tryz.prog Tryz.f18 (.bool (Zfa a0 b0)) [.cells 32 (oc b0)]) := by
 refine Z20 (kok _ _ _ _ _ _) (E := E_bind_Claim_2) (L := Z2a) 60 9999 Z14.none (Z220 a0 b0) (by kernel_rfl) (by kernel_rfl) (by kernel_rfl) ?_
 unfold Z220
 exact ⟨trivial, .inl (by kernel_rfl), by kernel_rfl⟩
noncomputable def Z24a : Fact Tryz.prog := Z50 18 Tryz.f18 (by kernel_rfl) rfl (by kernel_rfl) [.st .obj, .c (.ptr 0 0)] [.st 32 .obj] true (fun t u => .bool (Zfa t.1 u.1)) (fun t u => HPL.enc _ u) (fun t u => [])
 (fun _ _ _ => rfl) (fun t u => by kernel_rfl) (fun t u => by kernel_rfl) (fun t u h => Z275 t.1 u.1 )
noncomputable def Ze0 : Env := Z57 (P := Tryz.prog) [Z24a] [] [] ckf false [Z7d]
def Z42 (a1 : Int) (b0 : List XObj) (b1 : XObj) : List XObj → Bool
 | [] => false
 | o :: r => cond (cond ((o.kind) == (Z26 a1 b0 b1)) (Zfa o b1) false)
  true
  (Z42 a1 b0 b1 r)
def Z81 (a1 : Int) (b0 : List XObj) (b1 : XObj) (i : Nat) : St :=
 ⟨Z9 30 [(0, .yld 6), (2, .ptr 4 0), (3, .ptr 5 0), (8, .vec 0), (9, .int .i64 (b0.length : Int)), (10, .int .i64 (i : Int))], [.vec true ⟨.obj, b0⟩, .cells 32 (oc b1), .cells 4 [.bool false], .cells 67 [.vec 0], .cells 27 [.int .u8 (Z26 a1 b0 b1)], .cells 73 [.fn 18 [.ptr 1 0]], .loop 1 (Z9 12 [(6, .ptr 2 0)]) none]⟩
def Zaa (a1 : Int) (b0 : List XObj) (b1 : XObj) (i : Nat) : RT :=
 (.ask (decide ((i : Int) < (b0.length : Int)))
   (.need [0 ≤ (i : Int) ∧ (i : Int) < (b0.length : Int)]
     (.ask (cond (((b0.getD i default).kind) == (Z26 a1 b0 b1)) (Zfa (b0.getD i default) b1) false)
       (.ask true
         (.ask true
           (.leaf .ret ⟨Z9 30 [], [.vec true ⟨.obj, b0⟩, .cells 32 (oc b1), .cells 4 [.bool true], .cells 67 [.vec 0], .cells 27 [.int .u8 (Z26 a1 b0 b1)], .cells 73 [.fn 18 [.ptr 1 0]], .loop 1 (Z9 12 [(6, .ptr 2 0)]) (some (.ret))]⟩ [])
           .fail)
         .fail)
       (.ask false
         .fail
         (.leaf .normal ⟨Z9 30 [(0, .yld 6), (2, .ptr 4 0), (3, .ptr 5 0), (8, .vec 0), (9, .int .i64 (b0.length : Int)), (10, .int .i64 (IntKind.i64.wrap ((i : Int) + (1 : Int))))], [.vec true ⟨.obj, b0⟩, .cells 32 (oc b1), .cells 4 [.bool false], .cells 67 [.vec 0], .cells 27 [.int .u8 (Z26 a1 b0 b1)], .cells 73 [.fn 18 [.ptr 1 0]], .loop 1 (Z9 12 [(6, .ptr 2 0)]) none]⟩ []))))
   (.leaf (.exit 0) ⟨Z9 30 [], [.vec true ⟨.obj, b0⟩, .cells 32 (oc b1), .cells 4 [.bool false], .cells 67 [.vec 0], .cells 27 [.int .u8 (Z26 a1 b0 b1)], .cells 73 [.fn 18 [.ptr 1 0]], .loop 1 (Z9 12 [(6, .ptr 2 0)]) none]⟩ []))
def Z55 (a1 : Int) (b0 : List XObj) (b1 : XObj) (i : Nat) : Tree :=
 .ask (Z42 a1 b0 b1 (b0.drop i)) (.leaf .ret ⟨Z9 30 [], [.vec true ⟨.obj, b0⟩, .cells 32 (oc b1), .cells 4 [.bool true], .cells 67 [.vec 0], .cells 27 [.int .u8 (Z26 a1 b0 b1)], .cells 73 [.fn 18 [.ptr 1 0]], .loop 1 (Z9 12 [(6, .ptr 2 0)]) (some (.ret))]⟩) (.leaf (.exit 0) ⟨Z9 30 [], [.vec true ⟨.obj, b0⟩, .cells 32 (oc b1), .cells 4 [.bool false], .cells 67 [.vec 0], .cells 27 [.int .u8 (Z26 a1 b0 b1)], .cells 73 [.fn 18 [.ptr 1 0]], .loop 1 (Z9 12 [(6, .ptr 2 0)]) none]⟩)
theorem Z12f (a1 : Int) (b0 : List XObj) (b1 : XObj) (hp0 : b0.length < 4611686018427387904) (hp1 : ∀ o ∈ b0, o.Fine) (hlen : b0.length < 4611686018427387904) (z : { z : Nat // z ≤ b0.length }) (Q : Exit → St → Prop) (h : (Z55 a1 b0 b1 z.1).All Q) : Tr Tryz.prog 7 (.loop (Z49 Tryz.f41 0)) (Z81 a1 b0 b1 z.1) Q := by
 refine Z98 (kok _ _ _ _ _ _) (E := Ze0) (ι := { z : Nat // z ≤ b0.length }) 60 0 (fun _ => Z2a) (fun z => Z81 a1 b0 b1 z.1) (fun z => Z55 a1 b0 b1 z.1) (fun z => Zaa a1 b0 b1 z.1) (fun z => b0.length - z.1) (fun _ => Z14.none) (fun z => by obtain ⟨i, hi⟩ := z; kernel_rfl) (fun z => by obtain ⟨i, hi⟩ := z; kernel_rfl) (fun z => by obtain ⟨i, hi⟩ := z; kernel_rfl) ?_ z Q h
 rintro ⟨i, hi⟩ Q hT
 replace hT : (Z55 a1 b0 b1 i).All Q := hT
 replace hi : i ≤ b0.length := hi
 show (Zaa a1 b0 b1 i).All _
 unfold Zaa
 refine ⟨fun h0 => ?_, fun h0 => ?_⟩
 · have hlt : i < b0.length := by simpa using h0
   have hd := Z8e hlt
   have hw := Z85 (i := i) (by omega)
   refine ⟨Z6 (by first | assumption | omega | (intro; omega) | (simp only [decide_eq_true_eq, decide_eq_false_iff_not, Bool.cond_false_right, Bool.cond_true_right, Bool.cond_true_left, Bool.cond_false_left, Bool.and_eq_true, Bool.or_eq_true, Bool.not_eq_true', Z35, maxLen, List.length_cons, List.length_nil, List.length_append, Z28] at *; omega) | (intro; simp only [decide_eq_true_eq, decide_eq_false_iff_not, Bool.cond_false_right, Bool.cond_true_right, Bool.cond_true_left, Bool.cond_false_left, Bool.and_eq_true, Bool.or_eq_true, Bool.not_eq_true', Z35, maxLen, List.length_cons, List.length_nil, List.length_append, Z28] at *; omega)) (Z10), ?_⟩
   refine ⟨fun h1 => ?_, fun h1 => ?_⟩
   · refine ⟨fun h2 => ?_, fun h2 => ?_⟩
     · refine ⟨fun h3 => ?_, fun h3 => ?_⟩
       · have hF : Z42 a1 b0 b1 (b0.drop i) = true := by rw [hd]; first | exact (Zb h1 (Zb h2 (Zb h3 rfl))) | simp only [Z42, h0, h1, h2, h3, cond_true, cond_false]
         unfold Z55 at hT
         rw [hF] at hT
         exact hT.1 rfl
       · exact absurd h3 (by simp)
     · exact absurd h2 (by simp)
   · refine ⟨fun h2 => ?_, fun h2 => ?_⟩
     · exact absurd h2 (by simp)
     · have hF : Z42 a1 b0 b1 (b0.drop i) = Z42 a1 b0 b1 (b0.drop (i + 1)) := by rw [hd]; first | exact (Z5 h1 (Z5 h2 rfl)) | simp only [Z42, h0, h1, h2, cond_true, cond_false]
       refine ⟨⟨(i + 1), by show (i + 1) ≤ b0.length; omega⟩, by show b0.length - (i + 1) < b0.length - i; omega, ?_, ?_⟩
       · show _ = Z81 a1 b0 b1 (i + 1)
         unfold Z81
         simp only [hw]
       · show (Z55 a1 b0 b1 (i + 1)).All Q
         unfold Z55 at hT ⊢
         rw [hF] at hT
         exact hT
 · have hge : ¬ i < b0.length := by simpa using h0
   have hd : b0.drop i = [] := List.drop_eq_nil_of_le (by omega)
   have hF : Z42 a1 b0 b1 (b0.drop i) = false := by rw [hd]; first | exact rfl | simp only [Z42, h0, cond_true, cond_false]
   unfold Z55 at hT
   rw [hF] at hT
   exact hT.2 rfl
def Zed (a1 : Int) (b0 : List XObj) (b1 : XObj) : St :=
 ⟨Z9 12 [(6, .ptr 2 0), (10, .fn 41 [.ptr 3 0, .ptr 4 0, .ptr 5 0])], [.vec true ⟨.obj, b0⟩, .cells 32 (oc b1), .cells 4 [.bool false], .cells 67 [.vec 0], .cells 27 [.int .u8 (Z26 a1 b0 b1)], .cells 73 [.fn 18 [.ptr 1 0]]]⟩
def Z66 (a1 : Int) (b0 : List XObj) (b1 : XObj) : Bool :=
 cond (Z42 a1 b0 b1 b0)
  true
  false
def Zee (a1 : Int) (b0 : List XObj) (b1 : XObj) : RT :=
 (.ask (Z42 a1 b0 b1 b0)
   (.leaf .ret ⟨Z9 30 [], [.vec true ⟨.obj, b0⟩, .cells 32 (oc b1), .cells 4 [.bool true], .cells 67 [.vec 0], .cells 27 [.int .u8 (Z26 a1 b0 b1)], .cells 73 [.fn 18 [.ptr 1 0]], .loop 1 (Z9 12 [(6, .ptr 2 0)]) (some (.ret))]⟩ [])
   (.leaf .normal ⟨Z9 30 [], [.vec true ⟨.obj, b0⟩, .cells 32 (oc b1), .cells 4 [.bool false], .cells 67 [.vec 0], .cells 27 [.int .u8 (Z26 a1 b0 b1)], .cells 73 [.fn 18 [.ptr 1 0]], .loop 1 (Z9 12 [(6, .ptr 2 0)]) none]⟩ []))
def Z97 (a1 : Int) (b0 : List XObj) (b1 : XObj) : Tree :=
 .ask (Z66 a1 b0 b1) (.leaf .ret ⟨Z9 12 [(6, .ptr 2 0), (10, .fn 41 [.ptr 3 0, .ptr 4 0, .ptr 5 0])], [.vec true ⟨.obj, b0⟩, .cells 32 (oc b1), .cells 4 [.bool true], .cells 67 [.vec 0], .cells 27 [.int .u8 (Z26 a1 b0 b1)], .cells 73 [.fn 18 [.ptr 1 0]], .dead]⟩) (.leaf .normal ⟨Z9 12 [(6, .ptr 2 0), (10, .fn 41 [.ptr 3 0, .ptr 4 0, .ptr 5 0])], [.vec true ⟨.obj, b0⟩, .cells 32 (oc b1), .cells 4 [.bool false], .cells 67 [.vec 0], .cells 27 [.int .u8 (Z26 a1 b0 b1)], .cells 73 [.fn 18 [.ptr 1 0]], .dead]⟩)
theorem Z181 (a1 : Int) (b0 : List XObj) (b1 : XObj) (hp0 : b0.length < 4611686018427387904) (hp1 : ∀ o ∈ b0, o.Fine) (Q : Exit → St → Prop) (hT : (Z97 a1 b0 b1).All Q) : Tr Tryz.prog 2 (Z49 Tryz.f16 0) (Zed a1 b0 b1) Q := by
 have hc : Z49 Tryz.f16 0 = .rangeFunc (.tmp 10) (Globs.site 1).1 (Globs.site 1).2.1 (Globs.site 1).2.2 := by kernel_rfl
 rw [hc]
 refine Zc6 (site := 1) (gf := 41) (fn := Tryz.f41) (c := Z3a Tryz.f41) (cap := [.ptr 3 0, .ptr 4 0, .ptr 5 0]) 6 [6] (Z9 12 [(6, .ptr 2 0)]) [.yld 6, .ptr 3 0, .ptr 4 0, .ptr 5 0] [.vec true ⟨.obj, b0⟩, .cells 32 (oc b1), .cells 4 [.bool false], .cells 67 [.vec 0], .cells 27 [.int .u8 (Z26 a1 b0 b1)], .cells 73 [.fn 18 [.ptr 1 0]], .loop 1 (Z9 12 [(6, .ptr 2 0)]) none] rfl (by kernel_rfl) (by kernel_rfl) rfl (by kernel_rfl) (by kernel_rfl) (by kernel_rfl) (by kernel_rfl) (by kernel_rfl) (by kernel_rfl) (by kernel_rfl) (by kernel_rfl) ?_
 refine Z20 (kok _ _ _ _ _ _) (E := Ze0) (L := (Z61 [(0, Z81 a1 b0 b1 0, [], Z55 a1 b0 b1 0)])) 60 9999 (Z14.one (g := Z49 Tryz.f41 0) (b := 0) (by kernel_rfl) (by kernel_rfl) (by kernel_rfl) (by kernel_rfl) (fun Q h => Z12f a1 b0 b1 hp0 hp1 (by first | assumption | omega | exact Z6d _ (by first | assumption | omega | exact Nat.le_trans (w12_few_len _) (by decide)) | exact r12_Uniq_short _ (by first | assumption | omega | exact Nat.le_trans (w12_few_len _) (by decide)) | exact Nat.lt_of_le_of_lt (w12_few_len _) (by decide) | decide | (simp only [List.length_append, List.length_cons, List.length_nil]; have := w12_few_len a0; omega)) ⟨0, by first | exact Nat.zero_le _ | (show 0 ≤ b0.length; omega) | (show 0 ≤ b0.length; exact ⟨Nat.zero_le _, by assumption⟩) | (show 0 ≤ b0.length; simp)⟩ Q h)) (Zee a1 b0 b1) (by kernel_rfl) (by kernel_rfl) (by kernel_rfl) ?_
 unfold Zee
 refine ⟨fun h0 => ?_, fun h0 => ?_⟩
 · have hF : Z66 a1 b0 b1 = true := by first | exact (Zb h0 rfl) | simp only [Z66, h0, cond_true, cond_false]
   unfold Z97 at hT
   rw [hF] at hT
   exact ⟨⟨trivial, .tup [], by kernel_rfl⟩, (some (.ret)), [.vec true ⟨.obj, b0⟩, .cells 32 (oc b1), .cells 4 [.bool true], .cells 67 [.vec 0], .cells 27 [.int .u8 (Z26 a1 b0 b1)], .cells 73 [.fn 18 [.ptr 1 0]], .dead], by kernel_rfl, rfl, by kernel_rfl, by kernel_rfl, by kernel_rfl, by kernel_rfl, hT.1 rfl⟩
 · have hF : Z66 a1 b0 b1 = false := by first | exact (Z5 h0 rfl) | simp only [Z66, h0, cond_true, cond_false]
   unfold Z97 at hT
   rw [hF] at hT
   exact ⟨⟨trivial, .tup [], by kernel_rfl⟩, none, [.vec true ⟨.obj, b0⟩, .cells 32 (oc b1), .cells 4 [.bool false], .cells 67 [.vec 0], .cells 27 [.int .u8 (Z26 a1 b0 b1)], .cells 73 [.fn 18 [.ptr 1 0]], .dead], by kernel_rfl, rfl, by kernel_rfl, by kernel_rfl, by kernel_rfl, by kernel_rfl, hT.2 rfl⟩
noncomputable def Z231 : Env := Z57 (P := Tryz.prog) [Z17c] [] [] ckf
def Z5a (a1 : Int) (b0 : List XObj) (b1 : XObj) : Bool :=
 cond (Z66 a1 b0 b1)
  true
  false
def Z14c (a1 : Int) (b0 : List XObj) (b1 : XObj) : RT :=
 (.ask (Z66 a1 b0 b1)
   (.leaf .ret ⟨Z9 12 [(6, .ptr 2 0)], [.vec true ⟨.obj, b0⟩, .cells 32 (oc b1), .cells 4 [.bool true]]⟩ [])
   (.leaf .ret ⟨Z9 12 [(6, .ptr 2 0)], [.vec true ⟨.obj, b0⟩, .cells 32 (oc b1), .cells 4 [.bool false]]⟩ []))
theorem Z1ce (a1 : Int) (b0 : List XObj) (b1 : XObj) (hp0 : b0.length < 4611686018427387904) (hp1 : ∀ o ∈ b0, o.Fine) : Tr Tryz.prog 2 (Z3a Tryz.f16) (Z1f Tryz.f16 [.agg [.vec 0], .int .u8 a1, .fn 18 [.ptr 1 0]] [.vec true ⟨.obj, b0⟩, .cells 32 (oc b1)]) (Z4a Tryz.prog Tryz.f16 (.bool (Z5a a1 b0 b1)) [.vec true ⟨.obj, b0⟩, .cells 32 (oc b1)]) := by
 refine Z20 (kok _ _ _ _ _ _) (E := Z231) (L := (Z61 [(0, Zed a1 b0 b1, [0, 1, 3, 4, 5, 6], Z97 a1 b0 b1)])) 60 9999 (Z14.oneR (g := Z49 Tryz.f16 0) (b := 0) (by kernel_rfl) (by kernel_rfl) (by kernel_rfl) (by kernel_rfl) (fun Q h => Z181 a1 b0 b1 hp0 hp1 Q h)) (Z14c a1 b0 b1) (by kernel_rfl) (by kernel_rfl) (by kernel_rfl) ?_
 unfold Z14c
 refine ⟨fun h0 => ?_, fun h0 => ?_⟩
 · have hF : Z5a a1 b0 b1 = true := by first | exact (Zb h0 rfl) | simp only [Z5a, h0, cond_true, cond_false]
   exact ⟨trivial, .inl (by first | (rw [hF]; kernel_rfl) | kernel_rfl), by first | (rw [hF]; kernel_rfl) | kernel_rfl⟩
 · have hF : Z5a a1 b0 b1 = false := by first | exact (Z5 h0 rfl) | simp only [Z5a, h0, cond_true, cond_false]
   exact ⟨trivial, .inl (by first | (rw [hF]; kernel_rfl) | kernel_rfl), by first | (rw [hF]; kernel_rfl) | kernel_rfl⟩
noncomputable def Zdc : Fact Tryz.prog := Z50 16 Tryz.f16 (by kernel_rfl) rfl (by kernel_rfl) [.agg [.vec 0], .c (.int .u8), .fn 18 [.ptr 1 0]] [.vec true .obj, .st 32 .obj] true (fun t u => .bool (Z5a t.2.1 u.1 u.2.1)) (fun t u => HPL.enc _ u) (fun t u => [u.1.length < 4611686018427387904, ∀ o ∈ u.1, o.Fine])
 (fun _ _ _ => rfl) (fun t u => by kernel_rfl) (fun t u => by kernel_rfl) (fun t u h => Z1ce t.2.1 u.1 u.2.1 (h _ List.mem_cons_self) (h _ (List.mem_cons_of_mem _ List.mem_cons_self)))
noncomputable def E_bind_remove : Env := Z57 (P := Tryz.prog) [] [] [] ckf
def Z4b (a0 : XObj) : XAct :=
 (⟨(2 : Int), a0, (default : XCall)⟩ : XAct)
def Z260 (a0 : XObj) : RT :=
 (.leaf .ret ⟨Z9 5 [(2, .ptr 0 0)], [.cells 39 [.int .u8 2, .int .u8 a0.kind, .str a0.name, .int .u64 a0.version, .int .u64 a0.born, .bool a0.deleting, .bool a0.hold, .str a0.cls, .int .i64 a0.size, .int .i64 a0.got, .int .u8 a0.mode, .bool a0.keep, .bool a0.wait, .str a0.zone, .str a0.node, .str a0.claim, .str a0.volume, .str a0.source, .int .u8 a0.phase, .int .u64 a0.num, .int .u64 a0.tag, .int .u8 0, .str (⟨#[]⟩ : ByteArray), .int .u64 0, .int .i64 0, .str (⟨#[]⟩ : ByteArray), .str (⟨#[]⟩ : ByteArray), .str (⟨#[]⟩ : ByteArray)]]⟩ [1])
theorem bind_removeF_tr (a0 : XObj)  : Tr Tryz.prog 0 (Z3a Tryz.f19) (Z1f Tryz.f19 [.agg (oc a0)] []) (Z4a Tryz.prog Tryz.f19 (.agg (ac (Z4b a0))) []) := by
 refine Z20 (kok _ _ _ _ _ _) (E := E_bind_remove) (L := Z2a) 60 9999 Z14.none (Z260 a0) (by kernel_rfl) (by kernel_rfl) (by kernel_rfl) ?_
 unfold Z260
 exact ⟨trivial, .inl (by kernel_rfl), by kernel_rfl⟩
noncomputable def Zb2 : Fact Tryz.prog := Z50 19 Tryz.f19 (by kernel_rfl) rfl (by kernel_rfl) [.st .obj] [] true (fun t u => .agg (ac (Z4b t.1))) (fun t u => []) (fun t u => [])
 (fun _ _ _ => rfl) (fun t u => by kernel_rfl) (fun t u => by kernel_rfl) (fun t u h => bind_removeF_tr t.1 )
noncomputable def Z1f9 : Env := Z57 (P := Tryz.prog) [] [] [] ckf
def Z15 (a1 : Int) (b0 : List XObj) (b1 : XObj) : Int :=
 a1
def Z11b (a1 : Int) (b0 : List XObj) (b1 : XObj) : RT :=
 (.leaf .ret ⟨Z9 8 [(6, .fn 41 [.ptr 2 0, .ptr 3 0, .ptr 4 0])], [.vec true ⟨.obj, b0⟩, .cells 32 (oc b1), .cells 67 [.vec 0], .cells 27 [.int .u8 a1], .cells 73 [.fn 21 [.ptr 1 0]]]⟩ [])
theorem Z1a4 (a1 : Int) (b0 : List XObj) (b1 : XObj)  : Tr Tryz.prog 2 (Z3a Tryz.f20) (Z1f Tryz.f20 [.agg [.vec 0], .int .u8 a1, .fn 21 [.ptr 1 0]] [.vec true ⟨.obj, b0⟩, .cells 32 (oc b1)]) (Z4a Tryz.prog Tryz.f20 (.fn 41 [.ptr 2 0, .ptr 3 0, .ptr 4 0]) [.vec true ⟨.obj, b0⟩, .cells 32 (oc b1), .cells 67 [.vec 0], .cells 27 [.int .u8 (Z15 a1 b0 b1)], .cells 73 [.fn 21 [.ptr 1 0]]]) := by
 refine Z20 (kok _ _ _ _ _ _) (E := Z1f9) (L := Z2a) 60 9999 Z14.none (Z11b a1 b0 b1) (by kernel_rfl) (by kernel_rfl) (by kernel_rfl) ?_
 unfold Z11b
 exact ⟨trivial, .inl (by kernel_rfl), by kernel_rfl⟩
noncomputable def Z164 : Fact Tryz.prog := Z50 20 Tryz.f20 (by kernel_rfl) rfl (by kernel_rfl) [.agg [.vec 0], .c (.int .u8), .fn 21 [.ptr 1 0]] [.vec true .obj, .st 32 .obj] false (fun t u => .fn 41 [.ptr 2 0, .ptr 3 0, .ptr 4 0]) (fun t u => [.vec true ⟨.obj, u.1⟩, .cells 32 (oc u.2.1), .cells 67 [.vec 0], .cells 27 [.int .u8 (Z15 t.2.1 u.1 u.2.1)], .cells 73 [.fn 21 [.ptr 1 0]]]) (fun t u => [])
 (nofun) (fun t u => by kernel_rfl) (fun t u => by kernel_rfl) (fun t u h => Z1a4 t.2.1 u.1 u.2.1 )
noncomputable def Zc7 : Fact Tryz.prog := Z9f Z164 [.agg [.vec 0], .c (.int .u8), .fn 21 [.ptr 1 0]] [.vec true .obj, .st 32 .obj] (fun t u => .fn 41 [.ptr 2 0, .ptr 3 0, .ptr 4 0]) (fun t u => [.vec true ⟨.obj, u.1⟩, .cells 32 (oc u.2.1), .cells 67 [.vec 0], .cells 27 [.int .u8 (Z15 t.2.1 u.1 u.2.1)], .cells 73 [.fn 21 [.ptr 1 0]]]) (fun t u => []) rfl [0, 1] (by
 intro t u k hk
 simp only [List.mem_cons, List.not_mem_nil, or_false] at hk
 rcases hk with rfl | rfl
 all_goals exact ⟨by decide, rfl⟩)
noncomputable def E_bind_Claim_3 : Env := Z57 (P := Tryz.prog) [Zf9] [] [] ckf
def Zac (a0 : XObj) (b0 : XObj) : Bool :=
 decide (a0.claim = (Z5d b0))
def Z21f (a0 : XObj) (b0 : XObj) : RT :=
 (.need [b0.Fine]
   (.leaf .ret ⟨Z9 9 [(3, .bool (decide (a0.claim = (Z5d b0))))], [.cells 32 (oc b0)]⟩ []))
theorem Z274 (a0 : XObj) (b0 : XObj) (hp0 : b0.Fine) : Tr Tryz.prog 1 (Z3a Tryz.f21) (Z1f Tryz.f21 [.agg (oc a0), .ptr 0 0] [.cells 32 (oc b0)]) (Z4a Tryz.prog Tryz.f21 (.bool (Zac a0 b0)) [.cells 32 (oc b0)]) := by
 refine Z20 (kok _ _ _ _ _ _) (E := E_bind_Claim_3) (L := Z2a) 60 9999 Z14.none (Z21f a0 b0) (by kernel_rfl) (by kernel_rfl) (by kernel_rfl) ?_
 unfold Z21f
 refine ⟨Z6 (by first | assumption | exact hp0) (Z10), ?_⟩
 exact ⟨trivial, .inl (by kernel_rfl), by kernel_rfl⟩
noncomputable def Z14e : Fact Tryz.prog := Z50 21 Tryz.f21 (by kernel_rfl) rfl (by kernel_rfl) [.st .obj, .c (.ptr 0 0)] [.st 32 .obj] true (fun t u => .bool (Zac t.1 u.1)) (fun t u => HPL.enc _ u) (fun t u => [u.1.Fine])
 (fun _ _ _ => rfl) (fun t u => by kernel_rfl) (fun t u => by kernel_rfl) (fun t u h => Z274 t.1 u.1 (h _ List.mem_cons_self))
noncomputable def Z1df : Env := Z57 (P := Tryz.prog) [] [] [] ckf
def Z18 (a1 : XObj) (b1 : XObj) (b2 : Bool) : XObj × Bool :=
 cond (cond (!b2) true (Z9e a1.name b1.name))
  (a1, true)
  (b1, b2)
def Z21c (a1 : XObj) (b1 : XObj) (b2 : Bool) : RT :=
 (.leaf .normal ⟨Z9 102 [(11, .ptr 1 0), (12, .ptr 2 0), (13, .ptr 3 0)], [.dead, .cells 32 (oc b1), .cells 4 [.bool b2], .cells 32 (oc a1)]⟩ [])
def Z21b (a1 : XObj) (b1 : XObj) (b2 : Bool) : RT :=
 (.ask (cond (!b2) true (Z9e a1.name b1.name))
   (.leaf .normal ⟨Z9 102 [], [.dead, .cells 32 (oc a1), .cells 4 [.bool true]]⟩ [])
   (.leaf .normal ⟨Z9 102 [], [.dead, .cells 32 (oc b1), .cells 4 [.bool b2]]⟩ []))
theorem bind_Claim_r_tr (a1 : XObj) (b1 : XObj) (b2 : Bool)  : Tr Tryz.prog 3 (Globs.site 2).2.1 ⟨Z9 102 [(11, .ptr 1 0), (12, .ptr 2 0), (53, .agg (oc a1))], .dead :: [.cells 32 (oc b1), .cells 4 [.bool b2]]⟩ (fun e s1 => e = .normal ∧ Tr Tryz.prog 3 (Globs.site 2).2.2 s1 (rdEnds (true) .normal [.cells 32 (oc ((Z18 a1 b1 b2).1)), .cells 4 [.bool ((Z18 a1 b1 b2).2)]] .normal [.cells 32 (oc ((Z18 a1 b1 b2).1)), .cells 4 [.bool ((Z18 a1 b1 b2).2)]])) := by
 refine Z20 (kok _ _ _ _ _ _) (E := Z1df) (L := Z2a) 60 9999 Z14.none (Z21c a1 b1 b2) (by kernel_rfl) (by kernel_rfl) (by kernel_rfl) ?_
 unfold Z21c
 refine ⟨rfl, ?_⟩
 refine Z20 (kok _ _ _ _ _ _) (E := Z1df) (L := Z2a) 60 9999 Z14.none (Z21b a1 b1 b2) (by kernel_rfl) (by kernel_rfl) (by kernel_rfl) ?_
 unfold Z21b
 refine ⟨fun h0 => ?_, fun h0 => ?_⟩
 · have hF : Z18 a1 b1 b2 = (a1, true) := by first | exact (Zb h0 rfl) | simp only [Z18, h0, cond_true, cond_false]
   exact .inl ⟨rfl, rfl, by first | (rw [hF]; kernel_rfl) | kernel_rfl⟩
 · have hF : Z18 a1 b1 b2 = (b1, b2) := by first | exact (Z5 h0 rfl) | simp only [Z18, h0, cond_true, cond_false]
   exact .inl ⟨rfl, rfl, by first | (rw [hF]; kernel_rfl) | kernel_rfl⟩
noncomputable def Z14d : FactY Tryz.prog := factY 2 [.st .obj] (cpsOf 102 [(11, .ptr 1 0), (12, .ptr 2 0)]) [.st 32 .obj, .cells 4 [.bool]] (fun t u => true) .normal .normal none none (fun t u => [.cells 32 (oc ((Z18 t.2.1 u.2.1 u.2.2.1.1).1)), .cells 4 [.bool ((Z18 t.2.1 u.2.1 u.2.2.1.1).2)]]) (fun t u => [.cells 32 (oc ((Z18 t.2.1 u.2.1 u.2.2.1.1).1)), .cells 4 [.bool ((Z18 t.2.1 u.2.1 u.2.2.1.1).2)]]) (fun t u => []) rfl rfl
 (fun t u => by kernel_rfl) (fun t => by kernel_rfl) (fun t u => by kernel_rfl) (fun t u => by kernel_rfl) (fun t u => by kernel_rfl) (fun t u => Z9 102 [(11, .ptr 1 0), (12, .ptr 2 0), (53, .agg (oc t.2.1))]) (fun t u => by kernel_rfl) (fun t u h => bind_Claim_r_tr t.2.1 u.2.1 u.2.2.1.1 )
noncomputable def Z1b6 : Env := Z57 (P := Tryz.prog) [Z14e] [] [] ckf false [Z14d]
def Z1b (a0 : List XObj) (a2 : ByteArray) : List XObj → XObj → Bool → XObj × Bool
 | [], v4, v5 => (v4, v5)
 | o :: r, v4, v5 => cond (cond ((o.kind) == (Z15 (4 : Int) (Z4 a0) ((Z1 (3 : Int) a2 (Z4 a0)).1))) (Zac o ((Z1 (3 : Int) a2 (Z4 a0)).1)) false)
  (Z1b a0 a2 r ((Z18 o v4 v5).1) ((Z18 o v4 v5).2))
  (Z1b a0 a2 r v4 v5)
def Z8b (a0 : List XObj) (a1 : Int) (a2 : ByteArray) (i : Nat) (v4 : XObj) (v5 : Bool) : St :=
 ⟨Z9 30 [(0, .yld 9), (2, .ptr 6 0), (3, .ptr 7 0), (8, .vec 8), (9, .int .i64 ((Z4 a0).length : Int)), (10, .int .i64 (i : Int))], [.cells 39 [.int .u8 0, .int .u8 0, .str (⟨#[]⟩ : ByteArray), .int .u64 0, .int .u64 0, .bool false, .bool false, .str (⟨#[]⟩ : ByteArray), .int .i64 0, .int .i64 0, .int .u8 0, .bool false, .bool false, .str (⟨#[]⟩ : ByteArray), .str (⟨#[]⟩ : ByteArray), .str (⟨#[]⟩ : ByteArray), .str (⟨#[]⟩ : ByteArray), .str (⟨#[]⟩ : ByteArray), .int .u8 0, .int .u64 0, .int .u64 0, .int .u8 0, .str (⟨#[]⟩ : ByteArray), .int .u64 0, .int .i64 0, .str (⟨#[]⟩ : ByteArray), .str (⟨#[]⟩ : ByteArray), .str (⟨#[]⟩ : ByteArray)], .cells 67 [.vec 8], .cells 32 (oc ((Z1 (3 : Int) a2 (Z4 a0)).1)), .cells 32 (oc v4), .cells 4 [.bool v5], .cells 67 [.vec 8], .cells 27 [.int .u8 (Z15 (4 : Int) (Z4 a0) ((Z1 (3 : Int) a2 (Z4 a0)).1))], .cells 73 [.fn 21 [.ptr 2 0]], .vec true ⟨.obj, Z4 a0⟩, .loop 2 (Z9 102 [(11, .ptr 3 0), (12, .ptr 4 0)]) none]⟩
def Z10b (a0 : List XObj) (a1 : Int) (a2 : ByteArray) (i : Nat) (v4 : XObj) (v5 : Bool) : RT :=
 (.ask (decide ((i : Int) < ((Z4 a0).length : Int)))
   (.need [0 ≤ (i : Int) ∧ (i : Int) < ((Z4 a0).length : Int)]
     (.need [(((((Z4 a0).getD i default).kind) == (Z15 (4 : Int) (Z4 a0) ((Z1 (3 : Int) a2 (Z4 a0)).1))) = true) → (((Z1 (3 : Int) a2 (Z4 a0)).1).Fine)]
       (.ask (cond ((((Z4 a0).getD i default).kind) == (Z15 (4 : Int) (Z4 a0) ((Z1 (3 : Int) a2 (Z4 a0)).1))) (Zac ((Z4 a0).getD i default) ((Z1 (3 : Int) a2 (Z4 a0)).1)) false)
         (.ask true
           (.ask false
             .fail
             (.leaf .normal ⟨Z9 30 [(0, .yld 9), (2, .ptr 6 0), (3, .ptr 7 0), (8, .vec 8), (9, .int .i64 ((Z4 a0).length : Int)), (10, .int .i64 (IntKind.i64.wrap ((i : Int) + (1 : Int))))], [.cells 39 [.int .u8 0, .int .u8 0, .str (⟨#[]⟩ : ByteArray), .int .u64 0, .int .u64 0, .bool false, .bool false, .str (⟨#[]⟩ : ByteArray), .int .i64 0, .int .i64 0, .int .u8 0, .bool false, .bool false, .str (⟨#[]⟩ : ByteArray), .str (⟨#[]⟩ : ByteArray), .str (⟨#[]⟩ : ByteArray), .str (⟨#[]⟩ : ByteArray), .str (⟨#[]⟩ : ByteArray), .int .u8 0, .int .u64 0, .int .u64 0, .int .u8 0, .str (⟨#[]⟩ : ByteArray), .int .u64 0, .int .i64 0, .str (⟨#[]⟩ : ByteArray), .str (⟨#[]⟩ : ByteArray), .str (⟨#[]⟩ : ByteArray)], .cells 67 [.vec 8], .cells 32 (oc ((Z1 (3 : Int) a2 (Z4 a0)).1)), .cells 32 (oc ((Z18 ((Z4 a0).getD i default) v4 v5).1)), .cells 4 [.bool ((Z18 ((Z4 a0).getD i default) v4 v5).2)], .cells 67 [.vec 8], .cells 27 [.int .u8 (Z15 (4 : Int) (Z4 a0) ((Z1 (3 : Int) a2 (Z4 a0)).1))], .cells 73 [.fn 21 [.ptr 2 0]], .vec true ⟨.obj, Z4 a0⟩, .loop 2 (Z9 102 [(11, .ptr 3 0), (12, .ptr 4 0)]) none]⟩ []))
           .fail)
         (.ask false
           .fail
           (.leaf .normal ⟨Z9 30 [(0, .yld 9), (2, .ptr 6 0), (3, .ptr 7 0), (8, .vec 8), (9, .int .i64 ((Z4 a0).length : Int)), (10, .int .i64 (IntKind.i64.wrap ((i : Int) + (1 : Int))))], [.cells 39 [.int .u8 0, .int .u8 0, .str (⟨#[]⟩ : ByteArray), .int .u64 0, .int .u64 0, .bool false, .bool false, .str (⟨#[]⟩ : ByteArray), .int .i64 0, .int .i64 0, .int .u8 0, .bool false, .bool false, .str (⟨#[]⟩ : ByteArray), .str (⟨#[]⟩ : ByteArray), .str (⟨#[]⟩ : ByteArray), .str (⟨#[]⟩ : ByteArray), .str (⟨#[]⟩ : ByteArray), .int .u8 0, .int .u64 0, .int .u64 0, .int .u8 0, .str (⟨#[]⟩ : ByteArray), .int .u64 0, .int .i64 0, .str (⟨#[]⟩ : ByteArray), .str (⟨#[]⟩ : ByteArray), .str (⟨#[]⟩ : ByteArray)], .cells 67 [.vec 8], .cells 32 (oc ((Z1 (3 : Int) a2 (Z4 a0)).1)), .cells 32 (oc v4), .cells 4 [.bool v5], .cells 67 [.vec 8], .cells 27 [.int .u8 (Z15 (4 : Int) (Z4 a0) ((Z1 (3 : Int) a2 (Z4 a0)).1))], .cells 73 [.fn 21 [.ptr 2 0]], .vec true ⟨.obj, Z4 a0⟩, .loop 2 (Z9 102 [(11, .ptr 3 0), (12, .ptr 4 0)]) none]⟩ [])))))
   (.leaf (.exit 0) ⟨Z9 30 [], [.cells 39 [.int .u8 0, .int .u8 0, .str (⟨#[]⟩ : ByteArray), .int .u64 0, .int .u64 0, .bool false, .bool false, .str (⟨#[]⟩ : ByteArray), .int .i64 0, .int .i64 0, .int .u8 0, .bool false, .bool false, .str (⟨#[]⟩ : ByteArray), .str (⟨#[]⟩ : ByteArray), .str (⟨#[]⟩ : ByteArray), .str (⟨#[]⟩ : ByteArray), .str (⟨#[]⟩ : ByteArray), .int .u8 0, .int .u64 0, .int .u64 0, .int .u8 0, .str (⟨#[]⟩ : ByteArray), .int .u64 0, .int .i64 0, .str (⟨#[]⟩ : ByteArray), .str (⟨#[]⟩ : ByteArray), .str (⟨#[]⟩ : ByteArray)], .cells 67 [.vec 8], .cells 32 (oc ((Z1 (3 : Int) a2 (Z4 a0)).1)), .cells 32 (oc v4), .cells 4 [.bool v5], .cells 67 [.vec 8], .cells 27 [.int .u8 (Z15 (4 : Int) (Z4 a0) ((Z1 (3 : Int) a2 (Z4 a0)).1))], .cells 73 [.fn 21 [.ptr 2 0]], .vec true ⟨.obj, Z4 a0⟩, .loop 2 (Z9 102 [(11, .ptr 3 0), (12, .ptr 4 0)]) none]⟩ []))
def Z74 (a0 : List XObj) (a1 : Int) (a2 : ByteArray) (i : Nat) (v4 : XObj) (v5 : Bool) : Tree :=
 .leaf (.exit 0) ⟨Z9 30 [], [.cells 39 [.int .u8 0, .int .u8 0, .str (⟨#[]⟩ : ByteArray), .int .u64 0, .int .u64 0, .bool false, .bool false, .str (⟨#[]⟩ : ByteArray), .int .i64 0, .int .i64 0, .int .u8 0, .bool false, .bool false, .str (⟨#[]⟩ : ByteArray), .str (⟨#[]⟩ : ByteArray), .str (⟨#[]⟩ : ByteArray), .str (⟨#[]⟩ : ByteArray), .str (⟨#[]⟩ : ByteArray), .int .u8 0, .int .u64 0, .int .u64 0, .int .u8 0, .str (⟨#[]⟩ : ByteArray), .int .u64 0, .int .i64 0, .str (⟨#[]⟩ : ByteArray), .str (⟨#[]⟩ : ByteArray), .str (⟨#[]⟩ : ByteArray)], .cells 67 [.vec 8], .cells 32 (oc ((Z1 (3 : Int) a2 (Z4 a0)).1)), .cells 32 (oc ((Z1b a0 a2 ((Z4 a0).drop i) v4 v5).1)), .cells 4 [.bool ((Z1b a0 a2 ((Z4 a0).drop i) v4 v5).2)], .cells 67 [.vec 8], .cells 27 [.int .u8 (Z15 (4 : Int) (Z4 a0) ((Z1 (3 : Int) a2 (Z4 a0)).1))], .cells 73 [.fn 21 [.ptr 2 0]], .vec true ⟨.obj, Z4 a0⟩, .loop 2 (Z9 102 [(11, .ptr 3 0), (12, .ptr 4 0)]) none]⟩
theorem Z1f4 (a0 : List XObj) (a1 : Int) (a2 : ByteArray) (hp0 : a0.length ≤ 64) (hp1 : ∀ o ∈ a0, o.Fine) (hlen : (Z4 a0).length < 4611686018427387904) (z : { z : Nat × XObj × Bool // z.1 ≤ (Z4 a0).length }) (Q : Exit → St → Prop) (h : (Z74 a0 a1 a2 z.1.1 z.1.2.1 z.1.2.2).All Q) : Tr Tryz.prog 10 (.loop (Z49 Tryz.f41 0)) (Z8b a0 a1 a2 z.1.1 z.1.2.1 z.1.2.2) Q := by
 refine Z98 (kok _ _ _ _ _ _) (E := Z1b6) (ι := { z : Nat × XObj × Bool // z.1 ≤ (Z4 a0).length }) 60 0 (fun _ => Z2a) (fun z => Z8b a0 a1 a2 z.1.1 z.1.2.1 z.1.2.2) (fun z => Z74 a0 a1 a2 z.1.1 z.1.2.1 z.1.2.2) (fun z => Z10b a0 a1 a2 z.1.1 z.1.2.1 z.1.2.2) (fun z => (Z4 a0).length - z.1.1) (fun _ => Z14.none) (fun z => by obtain ⟨⟨i, v4, v5⟩, hi⟩ := z; kernel_rfl) (fun z => by obtain ⟨⟨i, v4, v5⟩, hi⟩ := z; kernel_rfl) (fun z => by obtain ⟨⟨i, v4, v5⟩, hi⟩ := z; kernel_rfl) ?_ z Q h
 rintro ⟨⟨i, v4, v5⟩, hi⟩ Q hT
 replace hT : (Z74 a0 a1 a2 i v4 v5).All Q := hT
 replace hi : i ≤ (Z4 a0).length := hi
 show (Z10b a0 a1 a2 i v4 v5).All _
 unfold Z10b
 refine ⟨fun h0 => ?_, fun h0 => ?_⟩
 · have hlt : i < (Z4 a0).length := by simpa using h0
   have hd := Z8e hlt
   have hw := Z85 (i := i) (by omega)
   refine ⟨Z6 (by first | assumption | omega | (intro; omega) | (simp only [decide_eq_true_eq, decide_eq_false_iff_not, Bool.cond_false_right, Bool.cond_true_right, Bool.cond_true_left, Bool.cond_false_left, Bool.and_eq_true, Bool.or_eq_true, Bool.not_eq_true', Z35, maxLen, List.length_cons, List.length_nil, List.length_append, Z28] at *; omega) | (intro; simp only [decide_eq_true_eq, decide_eq_false_iff_not, Bool.cond_false_right, Bool.cond_true_right, Bool.cond_true_left, Bool.cond_false_left, Bool.and_eq_true, Bool.or_eq_true, Bool.not_eq_true', Z35, maxLen, List.length_cons, List.length_nil, List.length_append, Z28] at *; omega)) (Z10), ?_⟩
   refine ⟨Z6 (by (try refine fun (_ : _ = _) => ?_); first | assumption | exact Z43 _ _ _ (by first | assumption | exact Z4c _ (by first | assumption | exact w12_few_fine (by assumption)) | exact r12_Uniq_fine _ (by first | assumption | exact w12_few_fine (by assumption)) | exact w12_few_fine (by assumption)) | exact r12_Get_fine _ _ _ (by first | assumption | exact Z4c _ (by first | assumption | exact w12_few_fine (by assumption)) | exact r12_Uniq_fine _ (by first | assumption | exact w12_few_fine (by assumption)) | exact w12_few_fine (by assumption)) | exact Z5b | exact hp1 _ (Z33 (by assumption)) | exact r12_Uniq_fine _ (by assumption) _ (Z33 (by assumption)) | exact Z4c _ (by assumption) _ (Z33 (by assumption)) | exact w12_few_fine (by assumption) _ (Z33 (by assumption)) | exact hp1 | exact hp0 | (refine ⟨?_, ?_, ?_, ?_, ?_, ?_, ?_, ?_, ?_⟩ <;> first | assumption | decide | (simp only [Z4e]; decide))) (Z10), ?_⟩
   refine ⟨fun h1 => ?_, fun h1 => ?_⟩
   · refine ⟨fun h2 => ?_, fun h2 => ?_⟩
     · refine ⟨fun h3 => ?_, fun h3 => ?_⟩
       · exact absurd h3 (by simp)
       · have hF : Z1b a0 a2 ((Z4 a0).drop i) v4 v5 = Z1b a0 a2 ((Z4 a0).drop (i + 1)) ((Z18 ((Z4 a0).getD i default) v4 v5).1) ((Z18 ((Z4 a0).getD i default) v4 v5).2) := by rw [hd]; first | exact (Zb h1 (Zb h2 (Z5 h3 rfl))) | simp only [Z1b, h0, h1, h2, h3, cond_true, cond_false]
         refine ⟨⟨((i + 1), ((Z18 ((Z4 a0).getD i default) v4 v5).1), (Z18 ((Z4 a0).getD i default) v4 v5).2), by show (i + 1) ≤ (Z4 a0).length; omega⟩, by show (Z4 a0).length - (i + 1) < (Z4 a0).length - i; omega, ?_, ?_⟩
         · show _ = Z8b a0 a1 a2 (i + 1) ((Z18 ((Z4 a0).getD i default) v4 v5).1) ((Z18 ((Z4 a0).getD i default) v4 v5).2)
           unfold Z8b
           simp only [hw]
         · show (Z74 a0 a1 a2 (i + 1) ((Z18 ((Z4 a0).getD i default) v4 v5).1) ((Z18 ((Z4 a0).getD i default) v4 v5).2)).All Q
           unfold Z74 at hT ⊢
           rw [hF] at hT
           exact hT
     · exact absurd h2 (by simp)
   · refine ⟨fun h2 => ?_, fun h2 => ?_⟩
     · exact absurd h2 (by simp)
     · have hF : Z1b a0 a2 ((Z4 a0).drop i) v4 v5 = Z1b a0 a2 ((Z4 a0).drop (i + 1)) v4 v5 := by rw [hd]; first | exact (Z5 h1 (Z5 h2 rfl)) | simp only [Z1b, h0, h1, h2, cond_true, cond_false]
       refine ⟨⟨((i + 1), v4, v5), by show (i + 1) ≤ (Z4 a0).length; omega⟩, by show (Z4 a0).length - (i + 1) < (Z4 a0).length - i; omega, ?_, ?_⟩
       · show _ = Z8b a0 a1 a2 (i + 1) v4 v5
         unfold Z8b
         simp only [hw]
       · show (Z74 a0 a1 a2 (i + 1) v4 v5).All Q
         unfold Z74 at hT ⊢
         rw [hF] at hT
         exact hT
 · have hge : ¬ i < (Z4 a0).length := by simpa using h0
   have hd : (Z4 a0).drop i = [] := List.drop_eq_nil_of_le (by omega)
   have hF : Z1b a0 a2 ((Z4 a0).drop i) v4 v5 = (v4, v5) := by rw [hd]; first | exact rfl | simp only [Z1b, h0, cond_true, cond_false]
   unfold Z74 at hT
   rw [hF] at hT
   exact hT
def Z1db (a0 : List XObj) (a1 : Int) (a2 : ByteArray) : St :=
 ⟨Z9 102 [(1, .int .u64 a1), (6, .ptr 0 0), (7, .ptr 1 0), (8, .ptr 2 0), (11, .ptr 3 0), (12, .ptr 4 0), (52, .fn 41 [.ptr 5 0, .ptr 6 0, .ptr 7 0])], [.cells 39 [.int .u8 0, .int .u8 0, .str (⟨#[]⟩ : ByteArray), .int .u64 0, .int .u64 0, .bool false, .bool false, .str (⟨#[]⟩ : ByteArray), .int .i64 0, .int .i64 0, .int .u8 0, .bool false, .bool false, .str (⟨#[]⟩ : ByteArray), .str (⟨#[]⟩ : ByteArray), .str (⟨#[]⟩ : ByteArray), .str (⟨#[]⟩ : ByteArray), .str (⟨#[]⟩ : ByteArray), .int .u8 0, .int .u64 0, .int .u64 0, .int .u8 0, .str (⟨#[]⟩ : ByteArray), .int .u64 0, .int .i64 0, .str (⟨#[]⟩ : ByteArray), .str (⟨#[]⟩ : ByteArray), .str (⟨#[]⟩ : ByteArray)], .cells 67 [.vec 8], .cells 32 (oc ((Z1 (3 : Int) a2 (Z4 a0)).1)), .cells 32 [.int .u8 0, .str (⟨#[]⟩ : ByteArray), .int .u64 0, .int .u64 0, .bool false, .bool false, .str (⟨#[]⟩ : ByteArray), .int .i64 0, .int .i64 0, .int .u8 0, .bool false, .bool false, .str (⟨#[]⟩ : ByteArray), .str (⟨#[]⟩ : ByteArray), .str (⟨#[]⟩ : ByteArray), .str (⟨#[]⟩ : ByteArray), .str (⟨#[]⟩ : ByteArray), .int .u8 0, .int .u64 0, .int .u64 0], .cells 4 [.bool false], .cells 67 [.vec 8], .cells 27 [.int .u8 (Z15 (4 : Int) (Z4 a0) ((Z1 (3 : Int) a2 (Z4 a0)).1))], .cells 73 [.fn 21 [.ptr 2 0]], .vec true ⟨.obj, Z4 a0⟩]⟩
def Z1dc (a0 : List XObj) (a1 : Int) (a2 : ByteArray) : RT :=
 (.leaf .normal ⟨Z9 30 [], [.cells 39 [.int .u8 0, .int .u8 0, .str (⟨#[]⟩ : ByteArray), .int .u64 0, .int .u64 0, .bool false, .bool false, .str (⟨#[]⟩ : ByteArray), .int .i64 0, .int .i64 0, .int .u8 0, .bool false, .bool false, .str (⟨#[]⟩ : ByteArray), .str (⟨#[]⟩ : ByteArray), .str (⟨#[]⟩ : ByteArray), .str (⟨#[]⟩ : ByteArray), .str (⟨#[]⟩ : ByteArray), .int .u8 0, .int .u64 0, .int .u64 0, .int .u8 0, .str (⟨#[]⟩ : ByteArray), .int .u64 0, .int .i64 0, .str (⟨#[]⟩ : ByteArray), .str (⟨#[]⟩ : ByteArray), .str (⟨#[]⟩ : ByteArray)], .cells 67 [.vec 8], .cells 32 (oc ((Z1 (3 : Int) a2 (Z4 a0)).1)), .cells 32 (oc ((Z1b a0 a2 (Z4 a0) (default : XObj) false).1)), .cells 4 [.bool ((Z1b a0 a2 (Z4 a0) (default : XObj) false).2)], .cells 67 [.vec 8], .cells 27 [.int .u8 (Z15 (4 : Int) (Z4 a0) ((Z1 (3 : Int) a2 (Z4 a0)).1))], .cells 73 [.fn 21 [.ptr 2 0]], .vec true ⟨.obj, Z4 a0⟩, .loop 2 (Z9 102 [(11, .ptr 3 0), (12, .ptr 4 0)]) none]⟩ [])
def Z130 (a0 : List XObj) (a1 : Int) (a2 : ByteArray) : Tree :=
 .leaf .normal ⟨Z9 102 [(1, .int .u64 a1), (6, .ptr 0 0), (7, .ptr 1 0), (8, .ptr 2 0), (11, .ptr 3 0), (12, .ptr 4 0), (52, .fn 41 [.ptr 5 0, .ptr 6 0, .ptr 7 0])], [.cells 39 [.int .u8 0, .int .u8 0, .str (⟨#[]⟩ : ByteArray), .int .u64 0, .int .u64 0, .bool false, .bool false, .str (⟨#[]⟩ : ByteArray), .int .i64 0, .int .i64 0, .int .u8 0, .bool false, .bool false, .str (⟨#[]⟩ : ByteArray), .str (⟨#[]⟩ : ByteArray), .str (⟨#[]⟩ : ByteArray), .str (⟨#[]⟩ : ByteArray), .str (⟨#[]⟩ : ByteArray), .int .u8 0, .int .u64 0, .int .u64 0, .int .u8 0, .str (⟨#[]⟩ : ByteArray), .int .u64 0, .int .i64 0, .str (⟨#[]⟩ : ByteArray), .str (⟨#[]⟩ : ByteArray), .str (⟨#[]⟩ : ByteArray)], .cells 67 [.vec 8], .cells 32 (oc ((Z1 (3 : Int) a2 (Z4 a0)).1)), .cells 32 (oc ((Z1b a0 a2 (Z4 a0) (default : XObj) false).1)), .cells 4 [.bool ((Z1b a0 a2 (Z4 a0) (default : XObj) false).2)], .cells 67 [.vec 8], .cells 27 [.int .u8 (Z15 (4 : Int) (Z4 a0) ((Z1 (3 : Int) a2 (Z4 a0)).1))], .cells 73 [.fn 21 [.ptr 2 0]], .vec true ⟨.obj, Z4 a0⟩, .dead]⟩
theorem Z272 (a0 : List XObj) (a1 : Int) (a2 : ByteArray) (hp0 : a0.length ≤ 64) (hp1 : ∀ o ∈ a0, o.Fine) (Q : Exit → St → Prop) (hT : (Z130 a0 a1 a2).All Q) : Tr Tryz.prog 0 (Z49 Tryz.f6 0) (Z1db a0 a1 a2) Q := by
 have hc : Z49 Tryz.f6 0 = .rangeFunc (.tmp 52) (Globs.site 2).1 (Globs.site 2).2.1 (Globs.site 2).2.2 := by kernel_rfl
 rw [hc]
 refine Zc6 (site := 2) (gf := 41) (fn := Tryz.f41) (c := Z3a Tryz.f41) (cap := [.ptr 5 0, .ptr 6 0, .ptr 7 0]) 9 [11, 12] (Z9 102 [(11, .ptr 3 0), (12, .ptr 4 0)]) [.yld 9, .ptr 5 0, .ptr 6 0, .ptr 7 0] [.cells 39 [.int .u8 0, .int .u8 0, .str (⟨#[]⟩ : ByteArray), .int .u64 0, .int .u64 0, .bool false, .bool false, .str (⟨#[]⟩ : ByteArray), .int .i64 0, .int .i64 0, .int .u8 0, .bool false, .bool false, .str (⟨#[]⟩ : ByteArray), .str (⟨#[]⟩ : ByteArray), .str (⟨#[]⟩ : ByteArray), .str (⟨#[]⟩ : ByteArray), .str (⟨#[]⟩ : ByteArray), .int .u8 0, .int .u64 0, .int .u64 0, .int .u8 0, .str (⟨#[]⟩ : ByteArray), .int .u64 0, .int .i64 0, .str (⟨#[]⟩ : ByteArray), .str (⟨#[]⟩ : ByteArray), .str (⟨#[]⟩ : ByteArray)], .cells 67 [.vec 8], .cells 32 (oc ((Z1 (3 : Int) a2 (Z4 a0)).1)), .cells 32 [.int .u8 0, .str (⟨#[]⟩ : ByteArray), .int .u64 0, .int .u64 0, .bool false, .bool false, .str (⟨#[]⟩ : ByteArray), .int .i64 0, .int .i64 0, .int .u8 0, .bool false, .bool false, .str (⟨#[]⟩ : ByteArray), .str (⟨#[]⟩ : ByteArray), .str (⟨#[]⟩ : ByteArray), .str (⟨#[]⟩ : ByteArray), .str (⟨#[]⟩ : ByteArray), .int .u8 0, .int .u64 0, .int .u64 0], .cells 4 [.bool false], .cells 67 [.vec 8], .cells 27 [.int .u8 (Z15 (4 : Int) (Z4 a0) ((Z1 (3 : Int) a2 (Z4 a0)).1))], .cells 73 [.fn 21 [.ptr 2 0]], .vec true ⟨.obj, Z4 a0⟩, .loop 2 (Z9 102 [(11, .ptr 3 0), (12, .ptr 4 0)]) none] rfl (by kernel_rfl) (by kernel_rfl) rfl (by kernel_rfl) (by kernel_rfl) (by kernel_rfl) (by kernel_rfl) (by kernel_rfl) (by kernel_rfl) (by kernel_rfl) (by kernel_rfl) ?_
 refine Z20 (kok _ _ _ _ _ _) (E := Z1b6) (L := (Z61 [(0, Z8b a0 a1 a2 0 (default : XObj) false, [], Z74 a0 a1 a2 0 (default : XObj) false)])) 60 9999 (Z14.one (g := Z49 Tryz.f41 0) (b := 0) (by kernel_rfl) (by kernel_rfl) (by kernel_rfl) (by kernel_rfl) (fun Q h => Z1f4 a0 a1 a2 hp0 hp1 (by first | assumption | omega | exact Z6d _ (by first | assumption | omega | exact Nat.le_trans (w12_few_len _) (by decide)) | exact r12_Uniq_short _ (by first | assumption | omega | exact Nat.le_trans (w12_few_len _) (by decide)) | exact Nat.lt_of_le_of_lt (w12_few_len _) (by decide) | decide | (simp only [List.length_append, List.length_cons, List.length_nil]; have := w12_few_len a0; omega)) ⟨(0, (default : XObj), false), by first | exact Nat.zero_le _ | (show 0 ≤ (Z4 a0).length; omega) | (show 0 ≤ (Z4 a0).length; exact ⟨Nat.zero_le _, by assumption⟩) | (show 0 ≤ (Z4 a0).length; simp)⟩ Q h)) (Z1dc a0 a1 a2) (by kernel_rfl) (by kernel_rfl) (by kernel_rfl) ?_
 unfold Z1dc
 unfold Z130 at hT
 exact ⟨⟨trivial, .tup [], by kernel_rfl⟩, none, [.cells 39 [.int .u8 0, .int .u8 0, .str (⟨#[]⟩ : ByteArray), .int .u64 0, .int .u64 0, .bool false, .bool false, .str (⟨#[]⟩ : ByteArray), .int .i64 0, .int .i64 0, .int .u8 0, .bool false, .bool false, .str (⟨#[]⟩ : ByteArray), .str (⟨#[]⟩ : ByteArray), .str (⟨#[]⟩ : ByteArray), .str (⟨#[]⟩ : ByteArray), .str (⟨#[]⟩ : ByteArray), .int .u8 0, .int .u64 0, .int .u64 0, .int .u8 0, .str (⟨#[]⟩ : ByteArray), .int .u64 0, .int .i64 0, .str (⟨#[]⟩ : ByteArray), .str (⟨#[]⟩ : ByteArray), .str (⟨#[]⟩ : ByteArray)], .cells 67 [.vec 8], .cells 32 (oc ((Z1 (3 : Int) a2 (Z4 a0)).1)), .cells 32 (oc ((Z1b a0 a2 (Z4 a0) (default : XObj) false).1)), .cells 4 [.bool ((Z1b a0 a2 (Z4 a0) (default : XObj) false).2)], .cells 67 [.vec 8], .cells 27 [.int .u8 (Z15 (4 : Int) (Z4 a0) ((Z1 (3 : Int) a2 (Z4 a0)).1))], .cells 73 [.fn 21 [.ptr 2 0]], .vec true ⟨.obj, Z4 a0⟩, .dead], by kernel_rfl, rfl, by kernel_rfl, by kernel_rfl, by kernel_rfl, by kernel_rfl, hT⟩
noncomputable def E_bind_write : Env := Z57 (P := Tryz.prog) [] [] [] ckf
def Z13 (a0 : XObj) : XAct :=
 (⟨(1 : Int), a0, (default : XCall)⟩ : XAct)
def bind_writeR (a0 : XObj) : RT :=
 (.leaf .ret ⟨Z9 5 [(2, .ptr 0 0)], [.cells 39 [.int .u8 1, .int .u8 a0.kind, .str a0.name, .int .u64 a0.version, .int .u64 a0.born, .bool a0.deleting, .bool a0.hold, .str a0.cls, .int .i64 a0.size, .int .i64 a0.got, .int .u8 a0.mode, .bool a0.keep, .bool a0.wait, .str a0.zone, .str a0.node, .str a0.claim, .str a0.volume, .str a0.source, .int .u8 a0.phase, .int .u64 a0.num, .int .u64 a0.tag, .int .u8 0, .str (⟨#[]⟩ : ByteArray), .int .u64 0, .int .i64 0, .str (⟨#[]⟩ : ByteArray), .str (⟨#[]⟩ : ByteArray), .str (⟨#[]⟩ : ByteArray)]]⟩ [1])
theorem bind_writeF_tr (a0 : XObj)  : Tr Tryz.prog 0 (Z3a Tryz.f23) (Z1f Tryz.f23 [.agg (oc a0)] []) (Z4a Tryz.prog Tryz.f23 (.agg (ac (Z13 a0))) []) := by
 refine Z20 (kok _ _ _ _ _ _) (E := E_bind_write) (L := Z2a) 60 9999 Z14.none (bind_writeR a0) (by kernel_rfl) (by kernel_rfl) (by kernel_rfl) ?_
 unfold bind_writeR
 exact ⟨trivial, .inl (by kernel_rfl), by kernel_rfl⟩
noncomputable def Z9a : Fact Tryz.prog := Z50 23 Tryz.f23 (by kernel_rfl) rfl (by kernel_rfl) [.st .obj] [] true (fun t u => .agg (ac (Z13 t.1))) (fun t u => []) (fun t u => [])
 (fun _ _ _ => rfl) (fun t u => by kernel_rfl) (fun t u => by kernel_rfl) (fun t u h => bind_writeF_tr t.1 )
noncomputable def E_bind_ask : Env := Z57 (P := Tryz.prog) [] [] [] ckf
def Z8 (a0 : XCall) : XAct :=
 (⟨(3 : Int), (default : XObj), a0⟩ : XAct)
def bind_askR (a0 : XCall) : RT :=
 (.leaf .ret ⟨Z9 5 [(2, .ptr 0 0)], [.cells 39 [.int .u8 3, .int .u8 0, .str (⟨#[]⟩ : ByteArray), .int .u64 0, .int .u64 0, .bool false, .bool false, .str (⟨#[]⟩ : ByteArray), .int .i64 0, .int .i64 0, .int .u8 0, .bool false, .bool false, .str (⟨#[]⟩ : ByteArray), .str (⟨#[]⟩ : ByteArray), .str (⟨#[]⟩ : ByteArray), .str (⟨#[]⟩ : ByteArray), .str (⟨#[]⟩ : ByteArray), .int .u8 0, .int .u64 0, .int .u64 0, .int .u8 a0.verb, .str a0.target, .int .u64 a0.num, .int .i64 a0.size, .str a0.zone, .str a0.node, .str a0.source]]⟩ [1])
theorem bind_askF_tr (a0 : XCall)  : Tr Tryz.prog 0 (Z3a Tryz.f29) (Z1f Tryz.f29 [.agg (cc a0)] []) (Z4a Tryz.prog Tryz.f29 (.agg (ac (Z8 a0))) []) := by
 refine Z20 (kok _ _ _ _ _ _) (E := E_bind_ask) (L := Z2a) 60 9999 Z14.none (bind_askR a0) (by kernel_rfl) (by kernel_rfl) (by kernel_rfl) ?_
 unfold bind_askR
 exact ⟨trivial, .inl (by kernel_rfl), by kernel_rfl⟩
noncomputable def Zf8 : Fact Tryz.prog := Z50 29 Tryz.f29 (by kernel_rfl) rfl (by kernel_rfl) [.st .call] [] true (fun t u => .agg (ac (Z8 t.1))) (fun t u => []) (fun t u => [])
 (fun _ _ _ => rfl) (fun t u => by kernel_rfl) (fun t u => by kernel_rfl) (fun t u h => bind_askF_tr t.1 )
noncomputable def Z250 : Env := Z57 (P := Tryz.prog) [Zb2, Za1, Zf8, Z9a] [] [] ckf
def Z47 (a1 : XObj) (a2 : Int) (b0 : List XObj) : XAct :=
 cond (a1.num == (0 : Int))
  (Z4b a1)
  (cond (!(a1.phase == (2 : Int)))
    (Z8 (⟨(2 : Int), Z2c a1, a1.num, (0 : Int), (⟨#[]⟩ : ByteArray), (⟨#[]⟩ : ByteArray), (⟨#[]⟩ : ByteArray)⟩ : XCall))
    (Z13 ({ a1 with phase := (1 : Int), num := (IntKind.u64.wrap (a2 + (1 : Int))) } : XObj)))
def Z172 (a1 : XObj) (a2 : Int) (b0 : List XObj) : RT :=
 (.ask (a1.num == (0 : Int))
   (.leaf .ret ⟨Z9 27 [(6, .ptr 1 0)], [.vec true ⟨.obj, b0⟩, .cells 39 (ac (Z4b a1))]⟩ [0, 3])
   (.ask (!(a1.phase == (2 : Int)))
     (.need [a1.Fine]
       (.leaf .ret ⟨Z9 27 [(6, .ptr 1 0)], [.vec true ⟨.obj, b0⟩, .cells 39 (ac (Z8 (⟨(2 : Int), Z2c a1, a1.num, (0 : Int), (⟨#[]⟩ : ByteArray), (⟨#[]⟩ : ByteArray), (⟨#[]⟩ : ByteArray)⟩ : XCall)))]⟩ [0, 3]))
     (.leaf .ret ⟨Z9 27 [(6, .ptr 1 0)], [.vec true ⟨.obj, b0⟩, .cells 39 (ac (Z13 ({ a1 with phase := (1 : Int), num := (IntKind.u64.wrap (a2 + (1 : Int))) } : XObj)))]⟩ [0, 3])))
theorem Z1f0 (a1 : XObj) (a2 : Int) (b0 : List XObj) (hp0 : a1.Fine) : Tr Tryz.prog 1 (Z3a Tryz.f24) (Z1f Tryz.f24 [.agg [.vec 0], .agg (oc a1), .int .u64 a2] [.vec true ⟨.obj, b0⟩]) (Z4a Tryz.prog Tryz.f24 (.agg (ac (Z47 a1 a2 b0))) [.vec true ⟨.obj, b0⟩]) := by
 refine Z20 (kok _ _ _ _ _ _) (E := Z250) (L := Z2a) 60 9999 Z14.none (Z172 a1 a2 b0) (by kernel_rfl) (by kernel_rfl) (by kernel_rfl) ?_
 unfold Z172
 refine ⟨fun h0 => ?_, fun h0 => ?_⟩
 · have hF : Z47 a1 a2 b0 = (Z4b a1) := by first | exact (Zb h0 rfl) | simp only [Z47, h0, cond_true, cond_false]
   exact ⟨trivial, .inl (by first | (rw [hF]; kernel_rfl) | kernel_rfl), by first | (rw [hF]; kernel_rfl) | kernel_rfl⟩
 · refine ⟨fun h1 => ?_, fun h1 => ?_⟩
   · refine ⟨Z6 (by (try refine fun (_ : _ = _) => ?_); first | assumption | exact Z43 _ _ _ (by first | assumption | exact Z4c _ (by first | assumption | exact w12_few_fine (by assumption)) | exact r12_Uniq_fine _ (by first | assumption | exact w12_few_fine (by assumption)) | exact w12_few_fine (by assumption)) | exact r12_Get_fine _ _ _ (by first | assumption | exact Z4c _ (by first | assumption | exact w12_few_fine (by assumption)) | exact r12_Uniq_fine _ (by first | assumption | exact w12_few_fine (by assumption)) | exact w12_few_fine (by assumption)) | exact Z5b | exact hp1 _ (Z33 (by assumption)) | exact r12_Uniq_fine _ (by assumption) _ (Z33 (by assumption)) | exact Z4c _ (by assumption) _ (Z33 (by assumption)) | exact w12_few_fine (by assumption) _ (Z33 (by assumption)) | exact hp1 | exact hp0 | (refine ⟨?_, ?_, ?_, ?_, ?_, ?_, ?_, ?_, ?_⟩ <;> first | assumption | decide | (simp only [Z4e]; decide))) (Z10), ?_⟩
     have hF : Z47 a1 a2 b0 = (Z8 (⟨(2 : Int), Z2c a1, a1.num, (0 : Int), (⟨#[]⟩ : ByteArray), (⟨#[]⟩ : ByteArray), (⟨#[]⟩ : ByteArray)⟩ : XCall)) := by first | exact (Z5 h0 (Zb h1 rfl)) | simp only [Z47, h0, h1, cond_true, cond_false]
     exact ⟨trivial, .inl (by first | (rw [hF]; kernel_rfl) | kernel_rfl), by first | (rw [hF]; kernel_rfl) | kernel_rfl⟩
   · have hF : Z47 a1 a2 b0 = (Z13 ({ a1 with phase := (1 : Int), num := (IntKind.u64.wrap (a2 + (1 : Int))) } : XObj)) := by first | exact (Z5 h0 (Z5 h1 rfl)) | simp only [Z47, h0, h1, cond_true, cond_false]
     exact ⟨trivial, .inl (by first | (rw [hF]; kernel_rfl) | kernel_rfl), by first | (rw [hF]; kernel_rfl) | kernel_rfl⟩
noncomputable def Ze6 : Fact Tryz.prog := Z50 24 Tryz.f24 (by kernel_rfl) rfl (by kernel_rfl) [.agg [.vec 0], .st .obj, .c (.int .u64)] [.vec true .obj] true (fun t u => .agg (ac (Z47 t.2.1 t.2.2.1 u.1))) (fun t u => HPL.enc _ u) (fun t u => [t.2.1.Fine])
 (fun _ _ _ => rfl) (fun t u => by kernel_rfl) (fun t u => by kernel_rfl) (fun t u h => Z1f0 t.2.1 t.2.2.1 u.1 (h _ List.mem_cons_self))
noncomputable def Z1fc : Env := Z57 (P := Tryz.prog) [Za1, Z69, fmtU_fact, Zf8] [] [] ckf
def Z3b (a1 : XObj) (b0 : List XObj) : XAct :=
 cond (!(decide (a1.source = (⟨#[]⟩ : ByteArray))))
  (cond (!((Z1 (7 : Int) a1.source b0).2))
    (default : XAct)
    (Z8 (⟨(1 : Int), Z2c a1, a1.num, a1.size, a1.zone, (⟨#[]⟩ : ByteArray), (((⟨#[115, 110, 97, 112, 47]⟩ : ByteArray) ++ (((Z1 (7 : Int) a1.source b0).1).name)) ++ (⟨#[35]⟩ : ByteArray)) ++ (fmtU (((Z1 (7 : Int) a1.source b0).1).born))⟩ : XCall)))
  (Z8 (⟨(1 : Int), Z2c a1, a1.num, a1.size, a1.zone, (⟨#[]⟩ : ByteArray), (⟨#[]⟩ : ByteArray)⟩ : XCall))
def Z120 (a1 : XObj) (b0 : List XObj) : RT :=
 (.need [a1.Fine]
   (.ask (!(decide (a1.source = (⟨#[]⟩ : ByteArray))))
     (.need [b0.length < 4611686018427387904, ∀ o ∈ b0, o.Fine]
       (.ask (!((Z1 (7 : Int) a1.source b0).2))
         (.leaf .ret ⟨Z9 41 [(4, .ptr 1 0)], [.vec true ⟨.obj, b0⟩, .cells 39 [.int .u8 0, .int .u8 0, .str (⟨#[]⟩ : ByteArray), .int .u64 0, .int .u64 0, .bool false, .bool false, .str (⟨#[]⟩ : ByteArray), .int .i64 0, .int .i64 0, .int .u8 0, .bool false, .bool false, .str (⟨#[]⟩ : ByteArray), .str (⟨#[]⟩ : ByteArray), .str (⟨#[]⟩ : ByteArray), .str (⟨#[]⟩ : ByteArray), .str (⟨#[]⟩ : ByteArray), .int .u8 0, .int .u64 0, .int .u64 0, .int .u8 0, .str (⟨#[]⟩ : ByteArray), .int .u64 0, .int .i64 0, .str (⟨#[]⟩ : ByteArray), .str (⟨#[]⟩ : ByteArray), .str (⟨#[]⟩ : ByteArray)]]⟩ [0, 3])
         (.need [(⟨#[115, 110, 97, 112, 47]⟩ : ByteArray).size + (((Z1 (7 : Int) a1.source b0).1).name).size ≤ 9223372036854775807, ((⟨#[115, 110, 97, 112, 47]⟩ : ByteArray) ++ (((Z1 (7 : Int) a1.source b0).1).name)).size + (⟨#[35]⟩ : ByteArray).size ≤ 9223372036854775807, 0 ≤ (((Z1 (7 : Int) a1.source b0).1).born) ∧ (((Z1 (7 : Int) a1.source b0).1).born) ≤ 18446744073709551615, (((⟨#[115, 110, 97, 112, 47]⟩ : ByteArray) ++ (((Z1 (7 : Int) a1.source b0).1).name)) ++ (⟨#[35]⟩ : ByteArray)).size + (fmtU (((Z1 (7 : Int) a1.source b0).1).born)).size ≤ 9223372036854775807]
           (.leaf .ret ⟨Z9 41 [(4, .ptr 1 0)], [.vec true ⟨.obj, b0⟩, .cells 39 (ac (Z8 (⟨(1 : Int), Z2c a1, a1.num, a1.size, a1.zone, (⟨#[]⟩ : ByteArray), (((⟨#[115, 110, 97, 112, 47]⟩ : ByteArray) ++ (((Z1 (7 : Int) a1.source b0).1).name)) ++ (⟨#[35]⟩ : ByteArray)) ++ (fmtU (((Z1 (7 : Int) a1.source b0).1).born))⟩ : XCall)))]⟩ [0, 3]))))
     (.leaf .ret ⟨Z9 41 [(4, .ptr 1 0)], [.vec true ⟨.obj, b0⟩, .cells 39 (ac (Z8 (⟨(1 : Int), Z2c a1, a1.num, a1.size, a1.zone, (⟨#[]⟩ : ByteArray), (⟨#[]⟩ : ByteArray)⟩ : XCall)))]⟩ [0, 3])))
theorem Z1aa (a1 : XObj) (b0 : List XObj) (hp0 : b0.length < 4611686018427387904) (hp1 : ∀ o ∈ b0, o.Fine) (hp2 : a1.Fine) : Tr Tryz.prog 1 (Z3a Tryz.f25) (Z1f Tryz.f25 [.agg [.vec 0], .agg (oc a1)] [.vec true ⟨.obj, b0⟩]) (Z4a Tryz.prog Tryz.f25 (.agg (ac (Z3b a1 b0))) [.vec true ⟨.obj, b0⟩]) := by
 refine Z20 (kok _ _ _ _ _ _) (E := Z1fc) (L := Z2a) 60 9999 Z14.none (Z120 a1 b0) (by kernel_rfl) (by kernel_rfl) (by kernel_rfl) ?_
 unfold Z120
 refine ⟨Z6 (by (try refine fun (_ : _ = _) => ?_); first | assumption | exact Z43 _ _ _ (by first | assumption | exact Z4c _ (by first | assumption | exact w12_few_fine (by assumption)) | exact r12_Uniq_fine _ (by first | assumption | exact w12_few_fine (by assumption)) | exact w12_few_fine (by assumption)) | exact r12_Get_fine _ _ _ (by first | assumption | exact Z4c _ (by first | assumption | exact w12_few_fine (by assumption)) | exact r12_Uniq_fine _ (by first | assumption | exact w12_few_fine (by assumption)) | exact w12_few_fine (by assumption)) | exact Z5b | exact hp1 _ (Z33 (by assumption)) | exact r12_Uniq_fine _ (by assumption) _ (Z33 (by assumption)) | exact Z4c _ (by assumption) _ (Z33 (by assumption)) | exact w12_few_fine (by assumption) _ (Z33 (by assumption)) | exact hp1 | exact hp0 | (refine ⟨?_, ?_, ?_, ?_, ?_, ?_, ?_, ?_, ?_⟩ <;> first | assumption | decide | (simp only [Z4e]; decide))) (Z10), ?_⟩
 refine ⟨fun h0 => ?_, fun h0 => ?_⟩
 · refine ⟨Z6 (by (try refine fun (_ : _ = _) => ?_); first | assumption | omega | exact Z6d _ (by first | assumption | omega | exact Nat.le_trans (w12_few_len _) (by decide)) | exact r12_Uniq_short _ (by first | assumption | omega | exact Nat.le_trans (w12_few_len _) (by decide)) | exact Nat.lt_of_le_of_lt (w12_few_len _) (by decide) | decide | (simp only [List.length_append, List.length_cons, List.length_nil]; have := w12_few_len a0; omega)) (Z6 (by (try refine fun (_ : _ = _) => ?_); first | assumption | exact Z4c _ (by first | assumption | exact w12_few_fine (by assumption)) | exact r12_Uniq_fine _ (by first | assumption | exact w12_few_fine (by assumption)) | exact w12_few_fine (by assumption) | exact cons2_fine hp1 ⟨hp1.2.2.2.2.2.2.2.1, Int.le_refl 0, (by decide : (0 : Int) ≤ 18446744073709551615), Nat.zero_le _, Nat.zero_le _, Nat.zero_le _, Z6e _, Nat.zero_le _, Nat.zero_le _⟩ (w12_few_fine hp0) | (simp only [List.mem_cons, List.not_mem_nil, or_false, forall_eq_or_imp, forall_eq, XObj.Fine, Z4e]; decide)) (Z10)), ?_⟩
   refine ⟨fun h1 => ?_, fun h1 => ?_⟩
   · have hF : Z3b a1 b0 = (default : XAct) := by first | exact (Zb h0 (Zb h1 rfl)) | simp only [Z3b, h0, h1, cond_true, cond_false]
     exact ⟨trivial, .inl (by first | (rw [hF]; kernel_rfl) | kernel_rfl), by first | (rw [hF]; kernel_rfl) | kernel_rfl⟩
   · refine ⟨Z6 (by have hf := Z43 (7 : Int) a1.source b0 hp1; have hz := hf.1; have hb := Zd9 hf.2.2.1; simp only [Z4e, ByteArray.size_append, List.size_toArray, List.length_cons, List.length_nil]; omega) (Z6 (by have hf := Z43 (7 : Int) a1.source b0 hp1; have hz := hf.1; have hb := Zd9 hf.2.2.1; simp only [Z4e, ByteArray.size_append, List.size_toArray, List.length_cons, List.length_nil]; omega) (Z6 (by have hf := Z43 (7 : Int) a1.source b0 hp1; exact ⟨hf.2.1, hf.2.2.1⟩) (Z6 (by have hf := Z43 (7 : Int) a1.source b0 hp1; have hz := hf.1; have hb := Zd9 hf.2.2.1; simp only [Z4e, ByteArray.size_append, List.size_toArray, List.length_cons, List.length_nil]; omega) (Z10)))), ?_⟩
     have hF : Z3b a1 b0 = (Z8 (⟨(1 : Int), Z2c a1, a1.num, a1.size, a1.zone, (⟨#[]⟩ : ByteArray), (((⟨#[115, 110, 97, 112, 47]⟩ : ByteArray) ++ (((Z1 (7 : Int) a1.source b0).1).name)) ++ (⟨#[35]⟩ : ByteArray)) ++ (fmtU (((Z1 (7 : Int) a1.source b0).1).born))⟩ : XCall)) := by first | exact (Zb h0 (Z5 h1 rfl)) | simp only [Z3b, h0, h1, cond_true, cond_false]
     exact ⟨trivial, .inl (by first | (rw [hF]; kernel_rfl) | kernel_rfl), by first | (rw [hF]; kernel_rfl) | kernel_rfl⟩
 · have hF : Z3b a1 b0 = (Z8 (⟨(1 : Int), Z2c a1, a1.num, a1.size, a1.zone, (⟨#[]⟩ : ByteArray), (⟨#[]⟩ : ByteArray)⟩ : XCall)) := by first | exact (Z5 h0 rfl) | simp only [Z3b, h0, cond_true, cond_false]
   exact ⟨trivial, .inl (by first | (rw [hF]; kernel_rfl) | kernel_rfl), by first | (rw [hF]; kernel_rfl) | kernel_rfl⟩
noncomputable def Zc8 : Fact Tryz.prog := Z50 25 Tryz.f25 (by kernel_rfl) rfl (by kernel_rfl) [.agg [.vec 0], .st .obj] [.vec true .obj] true (fun t u => .agg (ac (Z3b t.2.1 u.1))) (fun t u => HPL.enc _ u) (fun t u => [u.1.length < 4611686018427387904, ∀ o ∈ u.1, o.Fine, t.2.1.Fine])
 (fun _ _ _ => rfl) (fun t u => by kernel_rfl) (fun t u => by kernel_rfl) (fun t u h => Z1aa t.2.1 u.1 (h _ List.mem_cons_self) (h _ (List.mem_cons_of_mem _ List.mem_cons_self)) (h _ (List.mem_cons_of_mem _ (List.mem_cons_of_mem _ List.mem_cons_self))))
noncomputable def Z24f : Env := Z57 (P := Tryz.prog) [Z69] [] [] ckf
def Zc (a1 : XObj) (b0 : List XObj) : XObj × Bool :=
 cond (decide (a1.node = (⟨#[]⟩ : ByteArray)))
  ((default : XObj), false)
  (((Z1 (2 : Int) a1.node b0).1), (Z1 (2 : Int) a1.node b0).2)
def Z171 (a1 : XObj) (b0 : List XObj) : RT :=
 (.ask (decide (a1.node = (⟨#[]⟩ : ByteArray)))
   (.leaf .ret ⟨Z9 16 [(4, .ptr 1 0), (5, .bool false)], [.vec true ⟨.obj, b0⟩, .cells 32 [.int .u8 0, .str (⟨#[]⟩ : ByteArray), .int .u64 0, .int .u64 0, .bool false, .bool false, .str (⟨#[]⟩ : ByteArray), .int .i64 0, .int .i64 0, .int .u8 0, .bool false, .bool false, .str (⟨#[]⟩ : ByteArray), .str (⟨#[]⟩ : ByteArray), .str (⟨#[]⟩ : ByteArray), .str (⟨#[]⟩ : ByteArray), .str (⟨#[]⟩ : ByteArray), .int .u8 0, .int .u64 0, .int .u64 0]]⟩ [0, 3])
   (.need [b0.length < 4611686018427387904, ∀ o ∈ b0, o.Fine]
     (.leaf .ret ⟨Z9 16 [(4, .ptr 1 0), (5, .bool ((Z1 (2 : Int) a1.node b0).2))], [.vec true ⟨.obj, b0⟩, .cells 32 (oc ((Z1 (2 : Int) a1.node b0).1))]⟩ [0, 3])))
theorem Z1ef (a1 : XObj) (b0 : List XObj) (hp0 : b0.length < 4611686018427387904) (hp1 : ∀ o ∈ b0, o.Fine) : Tr Tryz.prog 1 (Z3a Tryz.f44) (Z1f Tryz.f44 [.agg [.vec 0], .agg (oc a1)] [.vec true ⟨.obj, b0⟩]) (Z4a Tryz.prog Tryz.f44 (.tup [.agg (oc ((Zc a1 b0).1)), .bool ((Zc a1 b0).2)]) [.vec true ⟨.obj, b0⟩]) := by
 refine Z20 (kok _ _ _ _ _ _) (E := Z24f) (L := Z2a) 60 9999 Z14.none (Z171 a1 b0) (by kernel_rfl) (by kernel_rfl) (by kernel_rfl) ?_
 unfold Z171
 refine ⟨fun h0 => ?_, fun h0 => ?_⟩
 · have hF : Zc a1 b0 = ((default : XObj), false) := by first | exact (Zb h0 rfl) | simp only [Zc, h0, cond_true, cond_false]
   exact ⟨trivial, .inl (by first | (rw [hF]; kernel_rfl) | kernel_rfl), by first | (rw [hF]; kernel_rfl) | kernel_rfl⟩
 · refine ⟨Z6 (by (try refine fun (_ : _ = _) => ?_); first | assumption | omega | exact Z6d _ (by first | assumption | omega | exact Nat.le_trans (w12_few_len _) (by decide)) | exact r12_Uniq_short _ (by first | assumption | omega | exact Nat.le_trans (w12_few_len _) (by decide)) | exact Nat.lt_of_le_of_lt (w12_few_len _) (by decide) | decide | (simp only [List.length_append, List.length_cons, List.length_nil]; have := w12_few_len a0; omega)) (Z6 (by (try refine fun (_ : _ = _) => ?_); first | assumption | exact Z4c _ (by first | assumption | exact w12_few_fine (by assumption)) | exact r12_Uniq_fine _ (by first | assumption | exact w12_few_fine (by assumption)) | exact w12_few_fine (by assumption) | exact cons2_fine hp1 ⟨hp1.2.2.2.2.2.2.2.1, Int.le_refl 0, (by decide : (0 : Int) ≤ 18446744073709551615), Nat.zero_le _, Nat.zero_le _, Nat.zero_le _, Z6e _, Nat.zero_le _, Nat.zero_le _⟩ (w12_few_fine hp0) | (simp only [List.mem_cons, List.not_mem_nil, or_false, forall_eq_or_imp, forall_eq, XObj.Fine, Z4e]; decide)) (Z10)), ?_⟩
   have hF : Zc a1 b0 = (((Z1 (2 : Int) a1.node b0).1), (Z1 (2 : Int) a1.node b0).2) := by first | exact (Z5 h0 rfl) | simp only [Zc, h0, cond_true, cond_false]
   exact ⟨trivial, .inl (by first | (rw [hF]; kernel_rfl) | kernel_rfl), by first | (rw [hF]; kernel_rfl) | kernel_rfl⟩
noncomputable def Ze5 : Fact Tryz.prog := Z50 44 Tryz.f44 (by kernel_rfl) rfl (by kernel_rfl) [.agg [.vec 0], .st .obj] [.vec true .obj] true (fun t u => .tup [.agg (oc ((Zc t.2.1 u.1).1)), .bool ((Zc t.2.1 u.1).2)]) (fun t u => HPL.enc _ u) (fun t u => [u.1.length < 4611686018427387904, ∀ o ∈ u.1, o.Fine])
 (fun _ _ _ => rfl) (fun t u => by kernel_rfl) (fun t u => by kernel_rfl) (fun t u h => Z1ef t.2.1 u.1 (h _ List.mem_cons_self) (h _ (List.mem_cons_of_mem _ List.mem_cons_self)))
noncomputable def Z1f8 : Env := Z57 (P := Tryz.prog) [] [] [] ckf
def Z38 (a1 : Int) (b0 : List XObj) (b1 : XObj) (b2 : Bool) (b3 : XObj) : Int :=
 a1
def Z11a (a1 : Int) (b0 : List XObj) (b1 : XObj) (b2 : Bool) (b3 : XObj) : RT :=
 (.leaf .ret ⟨Z9 8 [(6, .fn 41 [.ptr 4 0, .ptr 5 0, .ptr 6 0])], [.vec true ⟨.obj, b0⟩, .cells 32 (oc b1), .cells 4 [.bool b2], .cells 32 (oc b3), .cells 67 [.vec 0], .cells 27 [.int .u8 a1], .cells 73 [.fn 52 [.ptr 1 0, .ptr 2 0, .ptr 3 0]]]⟩ [])
theorem Z1a3 (a1 : Int) (b0 : List XObj) (b1 : XObj) (b2 : Bool) (b3 : XObj)  : Tr Tryz.prog 4 (Z3a Tryz.f20) (Z1f Tryz.f20 [.agg [.vec 0], .int .u8 a1, .fn 52 [.ptr 1 0, .ptr 2 0, .ptr 3 0]] [.vec true ⟨.obj, b0⟩, .cells 32 (oc b1), .cells 4 [.bool b2], .cells 32 (oc b3)]) (Z4a Tryz.prog Tryz.f20 (.fn 41 [.ptr 4 0, .ptr 5 0, .ptr 6 0]) [.vec true ⟨.obj, b0⟩, .cells 32 (oc b1), .cells 4 [.bool b2], .cells 32 (oc b3), .cells 67 [.vec 0], .cells 27 [.int .u8 (Z38 a1 b0 b1 b2 b3)], .cells 73 [.fn 52 [.ptr 1 0, .ptr 2 0, .ptr 3 0]]]) := by
 refine Z20 (kok _ _ _ _ _ _) (E := Z1f8) (L := Z2a) 60 9999 Z14.none (Z11a a1 b0 b1 b2 b3) (by kernel_rfl) (by kernel_rfl) (by kernel_rfl) ?_
 unfold Z11a
 exact ⟨trivial, .inl (by kernel_rfl), by kernel_rfl⟩
noncomputable def Z163 : Fact Tryz.prog := Z50 20 Tryz.f20 (by kernel_rfl) rfl (by kernel_rfl) [.agg [.vec 0], .c (.int .u8), .fn 52 [.ptr 1 0, .ptr 2 0, .ptr 3 0]] [.vec true .obj, .st 32 .obj, .cells 4 [.bool], .st 32 .obj] false (fun t u => .fn 41 [.ptr 4 0, .ptr 5 0, .ptr 6 0]) (fun t u => [.vec true ⟨.obj, u.1⟩, .cells 32 (oc u.2.1), .cells 4 [.bool u.2.2.1.1], .cells 32 (oc u.2.2.2.1), .cells 67 [.vec 0], .cells 27 [.int .u8 (Z38 t.2.1 u.1 u.2.1 u.2.2.1.1 u.2.2.2.1)], .cells 73 [.fn 52 [.ptr 1 0, .ptr 2 0, .ptr 3 0]]]) (fun t u => [])
 (nofun) (fun t u => by kernel_rfl) (fun t u => by kernel_rfl) (fun t u h => Z1a3 t.2.1 u.1 u.2.1 u.2.2.1.1 u.2.2.2.1 )
noncomputable def Z17b : Fact Tryz.prog := Z9f Z163 [.agg [.vec 0], .c (.int .u8), .fn 52 [.ptr 1 0, .ptr 2 0, .ptr 3 0]] [.vec true .obj, .st 32 .obj, .cells 4 [.bool], .st 32 .obj] (fun t u => .fn 41 [.ptr 4 0, .ptr 5 0, .ptr 6 0]) (fun t u => [.vec true ⟨.obj, u.1⟩, .cells 32 (oc u.2.1), .cells 4 [.bool u.2.2.1.1], .cells 32 (oc u.2.2.2.1), .cells 67 [.vec 0], .cells 27 [.int .u8 (Z38 t.2.1 u.1 u.2.1 u.2.2.1.1 u.2.2.2.1)], .cells 73 [.fn 52 [.ptr 1 0, .ptr 2 0, .ptr 3 0]]]) (fun t u => []) rfl [0, 1, 2, 3] (by
 intro t u k hk
 simp only [List.mem_cons, List.not_mem_nil, or_false] at hk
 rcases hk with rfl | rfl | rfl | rfl
 all_goals exact ⟨by decide, rfl⟩)
noncomputable def E_bind_Best_1 : Env := Z57 (P := Tryz.prog) [] [] [] ckf
def Z123 (a0 : XObj) (b0 : XObj) (b1 : Bool) (b2 : XObj) : Bool :=
 cond (cond (cond (cond (cond (a0.phase == (4 : Int)) (!a0.deleting) false) (decide (a0.cls = b0.cls)) false) (a0.mode == b0.mode) false) (decide (a0.got ≥ b0.size)) false) (cond (!b1) true (decide (a0.zone = b2.zone))) false
def Z265 (a0 : XObj) (b0 : XObj) (b1 : Bool) (b2 : XObj) : RT :=
 (.leaf .ret ⟨Z9 48 [(5, .bool (cond (cond (cond (cond (cond (a0.phase == (4 : Int)) (!a0.deleting) false) (decide (a0.cls = b0.cls)) false) (a0.mode == b0.mode) false) (decide (a0.got ≥ b0.size)) false) (cond (!b1) true (decide (a0.zone = b2.zone))) false))], [.cells 32 (oc b0), .cells 4 [.bool b1], .cells 32 (oc b2)]⟩ [])
theorem bind_Best_1F_tr (a0 : XObj) (b0 : XObj) (b1 : Bool) (b2 : XObj)  : Tr Tryz.prog 3 (Z3a Tryz.f52) (Z1f Tryz.f52 [.agg (oc a0), .ptr 0 0, .ptr 1 0, .ptr 2 0] [.cells 32 (oc b0), .cells 4 [.bool b1], .cells 32 (oc b2)]) (Z4a Tryz.prog Tryz.f52 (.bool (Z123 a0 b0 b1 b2)) [.cells 32 (oc b0), .cells 4 [.bool b1], .cells 32 (oc b2)]) := by
 refine Z20 (kok _ _ _ _ _ _) (E := E_bind_Best_1) (L := Z2a) 60 9999 Z14.none (Z265 a0 b0 b1 b2) (by kernel_rfl) (by kernel_rfl) (by kernel_rfl) ?_
 unfold Z265
 exact ⟨trivial, .inl (by kernel_rfl), by kernel_rfl⟩
noncomputable def Z278 : Fact Tryz.prog := Z50 52 Tryz.f52 (by kernel_rfl) rfl (by kernel_rfl) [.st .obj, .c (.ptr 0 0), .c (.ptr 1 0), .c (.ptr 2 0)] [.st 32 .obj, .cells 4 [.bool], .st 32 .obj] true (fun t u => .bool (Z123 t.1 u.1 u.2.1.1 u.2.2.1)) (fun t u => HPL.enc _ u) (fun t u => [])
 (fun _ _ _ => rfl) (fun t u => by kernel_rfl) (fun t u => by kernel_rfl) (fun t u h => bind_Best_1F_tr t.1 u.1 u.2.1.1 u.2.2.1 )
noncomputable def Z232 : Env := Z57 (P := Tryz.prog) [] [] [] ckf
def Z3c (a1 : XObj) (b1 : XObj) (b2 : Bool) : XObj × Bool :=
 cond (cond (cond (!b2) true (decide (a1.got < b1.got))) true (cond (a1.got == b1.got) (Z9e a1.name b1.name) false))
  (a1, true)
  (b1, b2)
def Z264 (a1 : XObj) (b1 : XObj) (b2 : Bool) : RT :=
 (.leaf .normal ⟨Z9 50 [(9, .ptr 1 0), (10, .ptr 2 0), (11, .ptr 3 0)], [.dead, .cells 32 (oc b1), .cells 4 [.bool b2], .cells 32 (oc a1)]⟩ [])
def Z263 (a1 : XObj) (b1 : XObj) (b2 : Bool) : RT :=
 (.ask (cond (cond (!b2) true (decide (a1.got < b1.got))) true (cond (a1.got == b1.got) (Z9e a1.name b1.name) false))
   (.leaf .normal ⟨Z9 50 [], [.dead, .cells 32 (oc a1), .cells 4 [.bool true]]⟩ [])
   (.leaf .normal ⟨Z9 50 [], [.dead, .cells 32 (oc b1), .cells 4 [.bool b2]]⟩ []))
theorem bind_Best_r_tr (a1 : XObj) (b1 : XObj) (b2 : Bool)  : Tr Tryz.prog 3 (Globs.site 3).2.1 ⟨Z9 50 [(9, .ptr 1 0), (10, .ptr 2 0), (23, .agg (oc a1))], .dead :: [.cells 32 (oc b1), .cells 4 [.bool b2]]⟩ (fun e s1 => e = .normal ∧ Tr Tryz.prog 3 (Globs.site 3).2.2 s1 (rdEnds (true) .normal [.cells 32 (oc ((Z3c a1 b1 b2).1)), .cells 4 [.bool ((Z3c a1 b1 b2).2)]] .normal [.cells 32 (oc ((Z3c a1 b1 b2).1)), .cells 4 [.bool ((Z3c a1 b1 b2).2)]])) := by
 refine Z20 (kok _ _ _ _ _ _) (E := Z232) (L := Z2a) 60 9999 Z14.none (Z264 a1 b1 b2) (by kernel_rfl) (by kernel_rfl) (by kernel_rfl) ?_
 unfold Z264
 refine ⟨rfl, ?_⟩
 refine Z20 (kok _ _ _ _ _ _) (E := Z232) (L := Z2a) 60 9999 Z14.none (Z263 a1 b1 b2) (by kernel_rfl) (by kernel_rfl) (by kernel_rfl) ?_
 unfold Z263
 refine ⟨fun h0 => ?_, fun h0 => ?_⟩
 · have hF : Z3c a1 b1 b2 = (a1, true) := by first | exact (Zb h0 rfl) | simp only [Z3c, h0, cond_true, cond_false]
   exact .inl ⟨rfl, rfl, by first | (rw [hF]; kernel_rfl) | kernel_rfl⟩
 · have hF : Z3c a1 b1 b2 = (b1, b2) := by first | exact (Z5 h0 rfl) | simp only [Z3c, h0, cond_true, cond_false]
   exact .inl ⟨rfl, rfl, by first | (rw [hF]; kernel_rfl) | kernel_rfl⟩
noncomputable def Z277 : FactY Tryz.prog := factY 3 [.st .obj] (cpsOf 50 [(9, .ptr 1 0), (10, .ptr 2 0)]) [.st 32 .obj, .cells 4 [.bool]] (fun t u => true) .normal .normal none none (fun t u => [.cells 32 (oc ((Z3c t.2.1 u.2.1 u.2.2.1.1).1)), .cells 4 [.bool ((Z3c t.2.1 u.2.1 u.2.2.1.1).2)]]) (fun t u => [.cells 32 (oc ((Z3c t.2.1 u.2.1 u.2.2.1.1).1)), .cells 4 [.bool ((Z3c t.2.1 u.2.1 u.2.2.1.1).2)]]) (fun t u => []) rfl rfl
 (fun t u => by kernel_rfl) (fun t => by kernel_rfl) (fun t u => by kernel_rfl) (fun t u => by kernel_rfl) (fun t u => by kernel_rfl) (fun t u => Z9 50 [(9, .ptr 1 0), (10, .ptr 2 0), (23, .agg (oc t.2.1))]) (fun t u => by kernel_rfl) (fun t u h => bind_Best_r_tr t.2.1 u.2.1 u.2.2.1.1 )
noncomputable def Z1e0 : Env := Z57 (P := Tryz.prog) [Z278] [] [] ckf false [Z277]
def Z34 (a0 : List XObj) (a1 : XObj) : List XObj → XObj → Bool → XObj × Bool
 | [], v3, v4 => (v3, v4)
 | o :: r, v3, v4 => cond (cond ((o.kind) == (Z38 (4 : Int) (Z4 a0) a1 ((Zc a1 (Z4 a0)).2) ((Zc a1 (Z4 a0)).1))) (Z123 o a1 ((Zc a1 (Z4 a0)).2) ((Zc a1 (Z4 a0)).1)) false)
  (Z34 a0 a1 r ((Z3c o v3 v4).1) ((Z3c o v3 v4).2))
  (Z34 a0 a1 r v3 v4)
def Z91 (a0 : List XObj) (a1 : XObj) (i : Nat) (v3 : XObj) (v4 : Bool) : St :=
 ⟨Z9 30 [(0, .yld 10), (2, .ptr 4 0), (3, .ptr 5 0), (8, .vec 6), (9, .int .i64 ((Z4 a0).length : Int)), (10, .int .i64 (i : Int))], [.cells 32 [.int .u8 0, .str (⟨#[]⟩ : ByteArray), .int .u64 0, .int .u64 0, .bool false, .bool false, .str (⟨#[]⟩ : ByteArray), .int .i64 0, .int .i64 0, .int .u8 0, .bool false, .bool false, .str (⟨#[]⟩ : ByteArray), .str (⟨#[]⟩ : ByteArray), .str (⟨#[]⟩ : ByteArray), .str (⟨#[]⟩ : ByteArray), .str (⟨#[]⟩ : ByteArray), .int .u8 0, .int .u64 0, .int .u64 0], .cells 32 (oc v3), .cells 4 [.bool v4], .cells 67 [.vec 6], .cells 27 [.int .u8 (Z38 (4 : Int) (Z4 a0) a1 ((Zc a1 (Z4 a0)).2) ((Zc a1 (Z4 a0)).1))], .cells 73 [.fn 52 [.ptr 7 0, .ptr 8 0, .ptr 9 0]], .vec true ⟨.obj, Z4 a0⟩, .cells 32 (oc a1), .cells 4 [.bool ((Zc a1 (Z4 a0)).2)], .cells 32 (oc ((Zc a1 (Z4 a0)).1)), .loop 3 (Z9 50 [(9, .ptr 1 0), (10, .ptr 2 0)]) none]⟩
def Z131 (a0 : List XObj) (a1 : XObj) (i : Nat) (v3 : XObj) (v4 : Bool) : RT :=
 (.ask (decide ((i : Int) < ((Z4 a0).length : Int)))
   (.need [0 ≤ (i : Int) ∧ (i : Int) < ((Z4 a0).length : Int)]
     (.ask (cond ((((Z4 a0).getD i default).kind) == (Z38 (4 : Int) (Z4 a0) a1 ((Zc a1 (Z4 a0)).2) ((Zc a1 (Z4 a0)).1))) (Z123 ((Z4 a0).getD i default) a1 ((Zc a1 (Z4 a0)).2) ((Zc a1 (Z4 a0)).1)) false)
       (.ask true
         (.ask false
           .fail
           (.leaf .normal ⟨Z9 30 [(0, .yld 10), (2, .ptr 4 0), (3, .ptr 5 0), (8, .vec 6), (9, .int .i64 ((Z4 a0).length : Int)), (10, .int .i64 (IntKind.i64.wrap ((i : Int) + (1 : Int))))], [.cells 32 [.int .u8 0, .str (⟨#[]⟩ : ByteArray), .int .u64 0, .int .u64 0, .bool false, .bool false, .str (⟨#[]⟩ : ByteArray), .int .i64 0, .int .i64 0, .int .u8 0, .bool false, .bool false, .str (⟨#[]⟩ : ByteArray), .str (⟨#[]⟩ : ByteArray), .str (⟨#[]⟩ : ByteArray), .str (⟨#[]⟩ : ByteArray), .str (⟨#[]⟩ : ByteArray), .int .u8 0, .int .u64 0, .int .u64 0], .cells 32 (oc ((Z3c ((Z4 a0).getD i default) v3 v4).1)), .cells 4 [.bool ((Z3c ((Z4 a0).getD i default) v3 v4).2)], .cells 67 [.vec 6], .cells 27 [.int .u8 (Z38 (4 : Int) (Z4 a0) a1 ((Zc a1 (Z4 a0)).2) ((Zc a1 (Z4 a0)).1))], .cells 73 [.fn 52 [.ptr 7 0, .ptr 8 0, .ptr 9 0]], .vec true ⟨.obj, Z4 a0⟩, .cells 32 (oc a1), .cells 4 [.bool ((Zc a1 (Z4 a0)).2)], .cells 32 (oc ((Zc a1 (Z4 a0)).1)), .loop 3 (Z9 50 [(9, .ptr 1 0), (10, .ptr 2 0)]) none]⟩ []))
         .fail)
       (.ask false
         .fail
         (.leaf .normal ⟨Z9 30 [(0, .yld 10), (2, .ptr 4 0), (3, .ptr 5 0), (8, .vec 6), (9, .int .i64 ((Z4 a0).length : Int)), (10, .int .i64 (IntKind.i64.wrap ((i : Int) + (1 : Int))))], [.cells 32 [.int .u8 0, .str (⟨#[]⟩ : ByteArray), .int .u64 0, .int .u64 0, .bool false, .bool false, .str (⟨#[]⟩ : ByteArray), .int .i64 0, .int .i64 0, .int .u8 0, .bool false, .bool false, .str (⟨#[]⟩ : ByteArray), .str (⟨#[]⟩ : ByteArray), .str (⟨#[]⟩ : ByteArray), .str (⟨#[]⟩ : ByteArray), .str (⟨#[]⟩ : ByteArray), .int .u8 0, .int .u64 0, .int .u64 0], .cells 32 (oc v3), .cells 4 [.bool v4], .cells 67 [.vec 6], .cells 27 [.int .u8 (Z38 (4 : Int) (Z4 a0) a1 ((Zc a1 (Z4 a0)).2) ((Zc a1 (Z4 a0)).1))], .cells 73 [.fn 52 [.ptr 7 0, .ptr 8 0, .ptr 9 0]], .vec true ⟨.obj, Z4 a0⟩, .cells 32 (oc a1), .cells 4 [.bool ((Zc a1 (Z4 a0)).2)], .cells 32 (oc ((Zc a1 (Z4 a0)).1)), .loop 3 (Z9 50 [(9, .ptr 1 0), (10, .ptr 2 0)]) none]⟩ []))))
   (.leaf (.exit 0) ⟨Z9 30 [], [.cells 32 [.int .u8 0, .str (⟨#[]⟩ : ByteArray), .int .u64 0, .int .u64 0, .bool false, .bool false, .str (⟨#[]⟩ : ByteArray), .int .i64 0, .int .i64 0, .int .u8 0, .bool false, .bool false, .str (⟨#[]⟩ : ByteArray), .str (⟨#[]⟩ : ByteArray), .str (⟨#[]⟩ : ByteArray), .str (⟨#[]⟩ : ByteArray), .str (⟨#[]⟩ : ByteArray), .int .u8 0, .int .u64 0, .int .u64 0], .cells 32 (oc v3), .cells 4 [.bool v4], .cells 67 [.vec 6], .cells 27 [.int .u8 (Z38 (4 : Int) (Z4 a0) a1 ((Zc a1 (Z4 a0)).2) ((Zc a1 (Z4 a0)).1))], .cells 73 [.fn 52 [.ptr 7 0, .ptr 8 0, .ptr 9 0]], .vec true ⟨.obj, Z4 a0⟩, .cells 32 (oc a1), .cells 4 [.bool ((Zc a1 (Z4 a0)).2)], .cells 32 (oc ((Zc a1 (Z4 a0)).1)), .loop 3 (Z9 50 [(9, .ptr 1 0), (10, .ptr 2 0)]) none]⟩ []))
def Z7c (a0 : List XObj) (a1 : XObj) (i : Nat) (v3 : XObj) (v4 : Bool) : Tree :=
 .leaf (.exit 0) ⟨Z9 30 [], [.cells 32 [.int .u8 0, .str (⟨#[]⟩ : ByteArray), .int .u64 0, .int .u64 0, .bool false, .bool false, .str (⟨#[]⟩ : ByteArray), .int .i64 0, .int .i64 0, .int .u8 0, .bool false, .bool false, .str (⟨#[]⟩ : ByteArray), .str (⟨#[]⟩ : ByteArray), .str (⟨#[]⟩ : ByteArray), .str (⟨#[]⟩ : ByteArray), .str (⟨#[]⟩ : ByteArray), .int .u8 0, .int .u64 0, .int .u64 0], .cells 32 (oc ((Z34 a0 a1 ((Z4 a0).drop i) v3 v4).1)), .cells 4 [.bool ((Z34 a0 a1 ((Z4 a0).drop i) v3 v4).2)], .cells 67 [.vec 6], .cells 27 [.int .u8 (Z38 (4 : Int) (Z4 a0) a1 ((Zc a1 (Z4 a0)).2) ((Zc a1 (Z4 a0)).1))], .cells 73 [.fn 52 [.ptr 7 0, .ptr 8 0, .ptr 9 0]], .vec true ⟨.obj, Z4 a0⟩, .cells 32 (oc a1), .cells 4 [.bool ((Zc a1 (Z4 a0)).2)], .cells 32 (oc ((Zc a1 (Z4 a0)).1)), .loop 3 (Z9 50 [(9, .ptr 1 0), (10, .ptr 2 0)]) none]⟩
theorem Z224 (a0 : List XObj) (a1 : XObj) (hp0 : a0.length ≤ 64) (hp1 : ∀ o ∈ a0, o.Fine) (hlen : (Z4 a0).length < 4611686018427387904) (z : { z : Nat × XObj × Bool // z.1 ≤ (Z4 a0).length }) (Q : Exit → St → Prop) (h : (Z7c a0 a1 z.1.1 z.1.2.1 z.1.2.2).All Q) : Tr Tryz.prog 11 (.loop (Z49 Tryz.f41 0)) (Z91 a0 a1 z.1.1 z.1.2.1 z.1.2.2) Q := by
 refine Z98 (kok _ _ _ _ _ _) (E := Z1e0) (ι := { z : Nat × XObj × Bool // z.1 ≤ (Z4 a0).length }) 60 0 (fun _ => Z2a) (fun z => Z91 a0 a1 z.1.1 z.1.2.1 z.1.2.2) (fun z => Z7c a0 a1 z.1.1 z.1.2.1 z.1.2.2) (fun z => Z131 a0 a1 z.1.1 z.1.2.1 z.1.2.2) (fun z => (Z4 a0).length - z.1.1) (fun _ => Z14.none) (fun z => by obtain ⟨⟨i, v3, v4⟩, hi⟩ := z; kernel_rfl) (fun z => by obtain ⟨⟨i, v3, v4⟩, hi⟩ := z; kernel_rfl) (fun z => by obtain ⟨⟨i, v3, v4⟩, hi⟩ := z; kernel_rfl) ?_ z Q h
 rintro ⟨⟨i, v3, v4⟩, hi⟩ Q hT
 replace hT : (Z7c a0 a1 i v3 v4).All Q := hT
 replace hi : i ≤ (Z4 a0).length := hi
 show (Z131 a0 a1 i v3 v4).All _
 unfold Z131
 refine ⟨fun h0 => ?_, fun h0 => ?_⟩
 · have hlt : i < (Z4 a0).length := by simpa using h0
   have hd := Z8e hlt
   have hw := Z85 (i := i) (by omega)
   refine ⟨Z6 (by first | assumption | omega | (intro; omega) | (simp only [decide_eq_true_eq, decide_eq_false_iff_not, Bool.cond_false_right, Bool.cond_true_right, Bool.cond_true_left, Bool.cond_false_left, Bool.and_eq_true, Bool.or_eq_true, Bool.not_eq_true', Z35, maxLen, List.length_cons, List.length_nil, List.length_append, Z28] at *; omega) | (intro; simp only [decide_eq_true_eq, decide_eq_false_iff_not, Bool.cond_false_right, Bool.cond_true_right, Bool.cond_true_left, Bool.cond_false_left, Bool.and_eq_true, Bool.or_eq_true, Bool.not_eq_true', Z35, maxLen, List.length_cons, List.length_nil, List.length_append, Z28] at *; omega)) (Z10), ?_⟩
   refine ⟨fun h1 => ?_, fun h1 => ?_⟩
   · refine ⟨fun h2 => ?_, fun h2 => ?_⟩
     · refine ⟨fun h3 => ?_, fun h3 => ?_⟩
       · exact absurd h3 (by simp)
       · have hF : Z34 a0 a1 ((Z4 a0).drop i) v3 v4 = Z34 a0 a1 ((Z4 a0).drop (i + 1)) ((Z3c ((Z4 a0).getD i default) v3 v4).1) ((Z3c ((Z4 a0).getD i default) v3 v4).2) := by rw [hd]; first | exact (Zb h1 (Zb h2 (Z5 h3 rfl))) | simp only [Z34, h0, h1, h2, h3, cond_true, cond_false]
         refine ⟨⟨((i + 1), ((Z3c ((Z4 a0).getD i default) v3 v4).1), (Z3c ((Z4 a0).getD i default) v3 v4).2), by show (i + 1) ≤ (Z4 a0).length; omega⟩, by show (Z4 a0).length - (i + 1) < (Z4 a0).length - i; omega, ?_, ?_⟩
         · show _ = Z91 a0 a1 (i + 1) ((Z3c ((Z4 a0).getD i default) v3 v4).1) ((Z3c ((Z4 a0).getD i default) v3 v4).2)
           unfold Z91
           simp only [hw]
         · show (Z7c a0 a1 (i + 1) ((Z3c ((Z4 a0).getD i default) v3 v4).1) ((Z3c ((Z4 a0).getD i default) v3 v4).2)).All Q
           unfold Z7c at hT ⊢
           rw [hF] at hT
           exact hT
     · exact absurd h2 (by simp)
   · refine ⟨fun h2 => ?_, fun h2 => ?_⟩
     · exact absurd h2 (by simp)
     · have hF : Z34 a0 a1 ((Z4 a0).drop i) v3 v4 = Z34 a0 a1 ((Z4 a0).drop (i + 1)) v3 v4 := by rw [hd]; first | exact (Z5 h1 (Z5 h2 rfl)) | simp only [Z34, h0, h1, h2, cond_true, cond_false]
       refine ⟨⟨((i + 1), v3, v4), by show (i + 1) ≤ (Z4 a0).length; omega⟩, by show (Z4 a0).length - (i + 1) < (Z4 a0).length - i; omega, ?_, ?_⟩
       · show _ = Z91 a0 a1 (i + 1) v3 v4
         unfold Z91
         simp only [hw]
       · show (Z7c a0 a1 (i + 1) v3 v4).All Q
         unfold Z7c at hT ⊢
         rw [hF] at hT
         exact hT
 · have hge : ¬ i < (Z4 a0).length := by simpa using h0
   have hd : (Z4 a0).drop i = [] := List.drop_eq_nil_of_le (by omega)
   have hF : Z34 a0 a1 ((Z4 a0).drop i) v3 v4 = (v3, v4) := by rw [hd]; first | exact rfl | simp only [Z34, h0, cond_true, cond_false]
   unfold Z7c at hT
   rw [hF] at hT
   exact hT
def Z222 (a0 : List XObj) (a1 : XObj) : St :=
 ⟨Z9 50 [(4, .ptr 0 0), (9, .ptr 1 0), (10, .ptr 2 0), (22, .fn 41 [.ptr 3 0, .ptr 4 0, .ptr 5 0])], [.cells 32 [.int .u8 0, .str (⟨#[]⟩ : ByteArray), .int .u64 0, .int .u64 0, .bool false, .bool false, .str (⟨#[]⟩ : ByteArray), .int .i64 0, .int .i64 0, .int .u8 0, .bool false, .bool false, .str (⟨#[]⟩ : ByteArray), .str (⟨#[]⟩ : ByteArray), .str (⟨#[]⟩ : ByteArray), .str (⟨#[]⟩ : ByteArray), .str (⟨#[]⟩ : ByteArray), .int .u8 0, .int .u64 0, .int .u64 0], .cells 32 [.int .u8 0, .str (⟨#[]⟩ : ByteArray), .int .u64 0, .int .u64 0, .bool false, .bool false, .str (⟨#[]⟩ : ByteArray), .int .i64 0, .int .i64 0, .int .u8 0, .bool false, .bool false, .str (⟨#[]⟩ : ByteArray), .str (⟨#[]⟩ : ByteArray), .str (⟨#[]⟩ : ByteArray), .str (⟨#[]⟩ : ByteArray), .str (⟨#[]⟩ : ByteArray), .int .u8 0, .int .u64 0, .int .u64 0], .cells 4 [.bool false], .cells 67 [.vec 6], .cells 27 [.int .u8 (Z38 (4 : Int) (Z4 a0) a1 ((Zc a1 (Z4 a0)).2) ((Zc a1 (Z4 a0)).1))], .cells 73 [.fn 52 [.ptr 7 0, .ptr 8 0, .ptr 9 0]], .vec true ⟨.obj, Z4 a0⟩, .cells 32 (oc a1), .cells 4 [.bool ((Zc a1 (Z4 a0)).2)], .cells 32 (oc ((Zc a1 (Z4 a0)).1))]⟩
def Z223 (a0 : List XObj) (a1 : XObj) : RT :=
 (.leaf .normal ⟨Z9 30 [], [.cells 32 [.int .u8 0, .str (⟨#[]⟩ : ByteArray), .int .u64 0, .int .u64 0, .bool false, .bool false, .str (⟨#[]⟩ : ByteArray), .int .i64 0, .int .i64 0, .int .u8 0, .bool false, .bool false, .str (⟨#[]⟩ : ByteArray), .str (⟨#[]⟩ : ByteArray), .str (⟨#[]⟩ : ByteArray), .str (⟨#[]⟩ : ByteArray), .str (⟨#[]⟩ : ByteArray), .int .u8 0, .int .u64 0, .int .u64 0], .cells 32 (oc ((Z34 a0 a1 (Z4 a0) (default : XObj) false).1)), .cells 4 [.bool ((Z34 a0 a1 (Z4 a0) (default : XObj) false).2)], .cells 67 [.vec 6], .cells 27 [.int .u8 (Z38 (4 : Int) (Z4 a0) a1 ((Zc a1 (Z4 a0)).2) ((Zc a1 (Z4 a0)).1))], .cells 73 [.fn 52 [.ptr 7 0, .ptr 8 0, .ptr 9 0]], .vec true ⟨.obj, Z4 a0⟩, .cells 32 (oc a1), .cells 4 [.bool ((Zc a1 (Z4 a0)).2)], .cells 32 (oc ((Zc a1 (Z4 a0)).1)), .loop 3 (Z9 50 [(9, .ptr 1 0), (10, .ptr 2 0)]) none]⟩ [])
def Z169 (a0 : List XObj) (a1 : XObj) : Tree :=
 .leaf .normal ⟨Z9 50 [(4, .ptr 0 0), (9, .ptr 1 0), (10, .ptr 2 0), (22, .fn 41 [.ptr 3 0, .ptr 4 0, .ptr 5 0])], [.cells 32 [.int .u8 0, .str (⟨#[]⟩ : ByteArray), .int .u64 0, .int .u64 0, .bool false, .bool false, .str (⟨#[]⟩ : ByteArray), .int .i64 0, .int .i64 0, .int .u8 0, .bool false, .bool false, .str (⟨#[]⟩ : ByteArray), .str (⟨#[]⟩ : ByteArray), .str (⟨#[]⟩ : ByteArray), .str (⟨#[]⟩ : ByteArray), .str (⟨#[]⟩ : ByteArray), .int .u8 0, .int .u64 0, .int .u64 0], .cells 32 (oc ((Z34 a0 a1 (Z4 a0) (default : XObj) false).1)), .cells 4 [.bool ((Z34 a0 a1 (Z4 a0) (default : XObj) false).2)], .cells 67 [.vec 6], .cells 27 [.int .u8 (Z38 (4 : Int) (Z4 a0) a1 ((Zc a1 (Z4 a0)).2) ((Zc a1 (Z4 a0)).1))], .cells 73 [.fn 52 [.ptr 7 0, .ptr 8 0, .ptr 9 0]], .vec true ⟨.obj, Z4 a0⟩, .cells 32 (oc a1), .cells 4 [.bool ((Zc a1 (Z4 a0)).2)], .cells 32 (oc ((Zc a1 (Z4 a0)).1)), .dead]⟩
theorem bind_Best_it_rg (a0 : List XObj) (a1 : XObj) (hp0 : a0.length ≤ 64) (hp1 : ∀ o ∈ a0, o.Fine) (Q : Exit → St → Prop) (hT : (Z169 a0 a1).All Q) : Tr Tryz.prog 0 (Z49 Tryz.f43 0) (Z222 a0 a1) Q := by
 have hc : Z49 Tryz.f43 0 = .rangeFunc (.tmp 22) (Globs.site 3).1 (Globs.site 3).2.1 (Globs.site 3).2.2 := by kernel_rfl
 rw [hc]
 refine Zc6 (site := 3) (gf := 41) (fn := Tryz.f41) (c := Z3a Tryz.f41) (cap := [.ptr 3 0, .ptr 4 0, .ptr 5 0]) 10 [9, 10] (Z9 50 [(9, .ptr 1 0), (10, .ptr 2 0)]) [.yld 10, .ptr 3 0, .ptr 4 0, .ptr 5 0] [.cells 32 [.int .u8 0, .str (⟨#[]⟩ : ByteArray), .int .u64 0, .int .u64 0, .bool false, .bool false, .str (⟨#[]⟩ : ByteArray), .int .i64 0, .int .i64 0, .int .u8 0, .bool false, .bool false, .str (⟨#[]⟩ : ByteArray), .str (⟨#[]⟩ : ByteArray), .str (⟨#[]⟩ : ByteArray), .str (⟨#[]⟩ : ByteArray), .str (⟨#[]⟩ : ByteArray), .int .u8 0, .int .u64 0, .int .u64 0], .cells 32 [.int .u8 0, .str (⟨#[]⟩ : ByteArray), .int .u64 0, .int .u64 0, .bool false, .bool false, .str (⟨#[]⟩ : ByteArray), .int .i64 0, .int .i64 0, .int .u8 0, .bool false, .bool false, .str (⟨#[]⟩ : ByteArray), .str (⟨#[]⟩ : ByteArray), .str (⟨#[]⟩ : ByteArray), .str (⟨#[]⟩ : ByteArray), .str (⟨#[]⟩ : ByteArray), .int .u8 0, .int .u64 0, .int .u64 0], .cells 4 [.bool false], .cells 67 [.vec 6], .cells 27 [.int .u8 (Z38 (4 : Int) (Z4 a0) a1 ((Zc a1 (Z4 a0)).2) ((Zc a1 (Z4 a0)).1))], .cells 73 [.fn 52 [.ptr 7 0, .ptr 8 0, .ptr 9 0]], .vec true ⟨.obj, Z4 a0⟩, .cells 32 (oc a1), .cells 4 [.bool ((Zc a1 (Z4 a0)).2)], .cells 32 (oc ((Zc a1 (Z4 a0)).1)), .loop 3 (Z9 50 [(9, .ptr 1 0), (10, .ptr 2 0)]) none] rfl (by kernel_rfl) (by kernel_rfl) rfl (by kernel_rfl) (by kernel_rfl) (by kernel_rfl) (by kernel_rfl) (by kernel_rfl) (by kernel_rfl) (by kernel_rfl) (by kernel_rfl) ?_
 refine Z20 (kok _ _ _ _ _ _) (E := Z1e0) (L := (Z61 [(0, Z91 a0 a1 0 (default : XObj) false, [], Z7c a0 a1 0 (default : XObj) false)])) 60 9999 (Z14.one (g := Z49 Tryz.f41 0) (b := 0) (by kernel_rfl) (by kernel_rfl) (by kernel_rfl) (by kernel_rfl) (fun Q h => Z224 a0 a1 hp0 hp1 (by first | assumption | omega | exact Z6d _ (by first | assumption | omega | exact Nat.le_trans (w12_few_len _) (by decide)) | exact r12_Uniq_short _ (by first | assumption | omega | exact Nat.le_trans (w12_few_len _) (by decide)) | exact Nat.lt_of_le_of_lt (w12_few_len _) (by decide) | decide | (simp only [List.length_append, List.length_cons, List.length_nil]; have := w12_few_len a0; omega)) ⟨(0, (default : XObj), false), by first | exact Nat.zero_le _ | (show 0 ≤ (Z4 a0).length; omega) | (show 0 ≤ (Z4 a0).length; exact ⟨Nat.zero_le _, by assumption⟩) | (show 0 ≤ (Z4 a0).length; simp)⟩ Q h)) (Z223 a0 a1) (by kernel_rfl) (by kernel_rfl) (by kernel_rfl) ?_
 unfold Z223
 unfold Z169 at hT
 exact ⟨⟨trivial, .tup [], by kernel_rfl⟩, none, [.cells 32 [.int .u8 0, .str (⟨#[]⟩ : ByteArray), .int .u64 0, .int .u64 0, .bool false, .bool false, .str (⟨#[]⟩ : ByteArray), .int .i64 0, .int .i64 0, .int .u8 0, .bool false, .bool false, .str (⟨#[]⟩ : ByteArray), .str (⟨#[]⟩ : ByteArray), .str (⟨#[]⟩ : ByteArray), .str (⟨#[]⟩ : ByteArray), .str (⟨#[]⟩ : ByteArray), .int .u8 0, .int .u64 0, .int .u64 0], .cells 32 (oc ((Z34 a0 a1 (Z4 a0) (default : XObj) false).1)), .cells 4 [.bool ((Z34 a0 a1 (Z4 a0) (default : XObj) false).2)], .cells 67 [.vec 6], .cells 27 [.int .u8 (Z38 (4 : Int) (Z4 a0) a1 ((Zc a1 (Z4 a0)).2) ((Zc a1 (Z4 a0)).1))], .cells 73 [.fn 52 [.ptr 7 0, .ptr 8 0, .ptr 9 0]], .vec true ⟨.obj, Z4 a0⟩, .cells 32 (oc a1), .cells 4 [.bool ((Zc a1 (Z4 a0)).2)], .cells 32 (oc ((Zc a1 (Z4 a0)).1)), .dead], by kernel_rfl, rfl, by kernel_rfl, by kernel_rfl, by kernel_rfl, by kernel_rfl, hT⟩
noncomputable def E_bind_Best : Env := Z57 (P := Tryz.prog) [Z1af, Ze5, Z17b] [] [] ckf
def Zad (a0 : List XObj) (a1 : XObj) : XObj × Bool :=
 (((Z34 a0 a1 (Z4 a0) (default : XObj) false).1), (Z34 a0 a1 (Z4 a0) (default : XObj) false).2)
def bind_BestR (a0 : List XObj) (a1 : XObj) : RT :=
 (.need [a0.length ≤ 64]
   (.need [(Z4 a0).length < 4611686018427387904, ∀ o ∈ (Z4 a0), o.Fine]
     (.leaf .ret ⟨Z9 50 [(4, .ptr 0 0), (5, .bool ((Z34 a0 a1 (Z4 a0) (default : XObj) false).2))], [.cells 32 (oc ((Z34 a0 a1 (Z4 a0) (default : XObj) false).1))]⟩ [])))
theorem bind_BestF_tr (a0 : List XObj) (a1 : XObj) (hp0 : a0.length ≤ 64) (hp1 : ∀ o ∈ a0, o.Fine) : Tr Tryz.prog 0 (Z3a Tryz.f43) (Z1f Tryz.f43 [.coll ⟨.obj, a0⟩, .agg (oc a1)] []) (Z4a Tryz.prog Tryz.f43 (.tup [.agg (oc ((Zad a0 a1).1)), .bool ((Zad a0 a1).2)]) []) := by
 refine Z20 (kok _ _ _ _ _ _) (E := E_bind_Best) (L := (Z61 [(0, Z222 a0 a1, [1, 7, 8, 9, 10, 11, 2, 0, 6, 5], Z169 a0 a1)])) 60 9999 (Z14.oneR (g := Z49 Tryz.f43 0) (b := 0) (by kernel_rfl) (by kernel_rfl) (by kernel_rfl) (by kernel_rfl) (fun Q h => bind_Best_it_rg a0 a1 hp0 hp1 Q h)) (bind_BestR a0 a1) (by kernel_rfl) (by kernel_rfl) (by kernel_rfl) ?_
 unfold bind_BestR
 refine ⟨Z6 (by (try refine fun (_ : _ = _) => ?_); first | assumption | omega | exact of_len _ (by first | assumption | omega | exact Nat.le_trans (w12_few_len _) (by decide)) | exact r12_Uniq_len _ (by first | assumption | omega | exact Nat.le_trans (w12_few_len _) (by decide)) | exact Nat.le_trans (w12_few_len _) (by decide) | decide | (simp only [List.length_append, List.length_cons, List.length_nil]; have := w12_few_len a0; omega)) (Z10), ?_⟩
 refine ⟨Z6 (by (try refine fun (_ : _ = _) => ?_); first | assumption | omega | exact Z6d _ (by first | assumption | omega | exact Nat.le_trans (w12_few_len _) (by decide)) | exact r12_Uniq_short _ (by first | assumption | omega | exact Nat.le_trans (w12_few_len _) (by decide)) | exact Nat.lt_of_le_of_lt (w12_few_len _) (by decide) | decide | (simp only [List.length_append, List.length_cons, List.length_nil]; have := w12_few_len a0; omega)) (Z6 (by (try refine fun (_ : _ = _) => ?_); first | assumption | exact Z4c _ (by first | assumption | exact w12_few_fine (by assumption)) | exact r12_Uniq_fine _ (by first | assumption | exact w12_few_fine (by assumption)) | exact w12_few_fine (by assumption) | exact cons2_fine hp1 ⟨hp1.2.2.2.2.2.2.2.1, Int.le_refl 0, (by decide : (0 : Int) ≤ 18446744073709551615), Nat.zero_le _, Nat.zero_le _, Nat.zero_le _, Z6e _, Nat.zero_le _, Nat.zero_le _⟩ (w12_few_fine hp0) | (simp only [List.mem_cons, List.not_mem_nil, or_false, forall_eq_or_imp, forall_eq, XObj.Fine, Z4e]; decide)) (Z10)), ?_⟩
 exact ⟨trivial, .inl (by kernel_rfl), by kernel_rfl⟩
noncomputable def bind_Best_fact : Fact Tryz.prog := Z50 43 Tryz.f43 (by kernel_rfl) rfl (by kernel_rfl) [.c (.coll .obj), .st .obj] [] true (fun t u => .tup [.agg (oc ((Zad t.1 t.2.1).1)), .bool ((Zad t.1 t.2.1).2)]) (fun t u => []) (fun t u => [t.1.length ≤ 64, ∀ o ∈ t.1, o.Fine])
 (fun _ _ _ => rfl) (fun t u => by kernel_rfl) (fun t u => by kernel_rfl) (fun t u h => bind_BestF_tr t.1 t.2.1 (h _ List.mem_cons_self) (h _ (List.mem_cons_of_mem _ List.mem_cons_self)))
noncomputable def Z24d : Env := Z57 (P := Tryz.prog) [bind_Best_fact, Zf9, Z9a, Z69, Ze5] [] [] ckf
def Z1c (a1 : XObj) (a2 : Int) (b0 : List XObj) : XAct :=
 cond ((Zad b0 a1).2)
  (Z13 ({ ((Zad b0 a1).1) with claim := Z5d a1, phase := (3 : Int) } : XObj))
  (cond (!((Zc a1 b0).2))
    (cond (cond (!(cond ((Z1 (1 : Int) a1.cls b0).2) (!(((Z1 (1 : Int) a1.cls b0).1).wait)) false)) true (decide ((((Z1 (1 : Int) a1.cls b0).1).zone) = (⟨#[]⟩ : ByteArray))))
      (default : XAct)
      (cond (!(decide (a1.source = (⟨#[]⟩ : ByteArray))))
        (cond (cond (cond (cond (!((Z1 (7 : Int) a1.source b0).2)) true (((Z1 (7 : Int) a1.source b0).1).deleting)) true (!((((Z1 (7 : Int) a1.source b0).1).phase) == (11 : Int)))) true (decide ((((Z1 (7 : Int) a1.source b0).1).got) > a1.size)))
          (default : XAct)
          (Z13 ({ a1 with zone := ((Z1 (1 : Int) a1.cls b0).1).zone, phase := (2 : Int), num := (IntKind.u64.wrap (a2 + (1 : Int))) } : XObj)))
        (Z13 ({ a1 with zone := ((Z1 (1 : Int) a1.cls b0).1).zone, phase := (2 : Int), num := (IntKind.u64.wrap (a2 + (1 : Int))) } : XObj))))
    (cond (cond (!((Z1 (1 : Int) a1.cls b0).2)) true (decide ((((Zc a1 b0).1).zone) = (⟨#[]⟩ : ByteArray))))
      (default : XAct)
      (cond (!(decide (a1.source = (⟨#[]⟩ : ByteArray))))
        (cond (cond (cond (cond (!((Z1 (7 : Int) a1.source b0).2)) true (((Z1 (7 : Int) a1.source b0).1).deleting)) true (!((((Z1 (7 : Int) a1.source b0).1).phase) == (11 : Int)))) true (decide ((((Z1 (7 : Int) a1.source b0).1).got) > a1.size)))
          (default : XAct)
          (Z13 ({ a1 with zone := ((Zc a1 b0).1).zone, phase := (2 : Int), num := (IntKind.u64.wrap (a2 + (1 : Int))) } : XObj)))
        (Z13 ({ a1 with zone := ((Zc a1 b0).1).zone, phase := (2 : Int), num := (IntKind.u64.wrap (a2 + (1 : Int))) } : XObj)))))
def Z16f (a1 : XObj) (a2 : Int) (b0 : List XObj) : RT :=
 (.need [b0.length ≤ 64, ∀ o ∈ b0, o.Fine]
   (.ask ((Zad b0 a1).2)
     (.need [a1.Fine]
       (.leaf .ret ⟨Z9 99 [(6, .ptr 1 0)], [.vec true ⟨.obj, b0⟩, .cells 39 (ac (Z13 ({ ((Zad b0 a1).1) with claim := Z5d a1, phase := (3 : Int) } : XObj)))]⟩ [0, 3]))
     (.need [b0.length < 4611686018427387904, ∀ o ∈ b0, o.Fine]
       (.need [b0.length < 4611686018427387904, ∀ o ∈ b0, o.Fine]
         (.ask (!((Zc a1 b0).2))
           (.ask (cond (!(cond ((Z1 (1 : Int) a1.cls b0).2) (!(((Z1 (1 : Int) a1.cls b0).1).wait)) false)) true (decide ((((Z1 (1 : Int) a1.cls b0).1).zone) = (⟨#[]⟩ : ByteArray))))
             (.leaf .ret ⟨Z9 99 [(6, .ptr 1 0)], [.vec true ⟨.obj, b0⟩, .cells 39 [.int .u8 0, .int .u8 0, .str (⟨#[]⟩ : ByteArray), .int .u64 0, .int .u64 0, .bool false, .bool false, .str (⟨#[]⟩ : ByteArray), .int .i64 0, .int .i64 0, .int .u8 0, .bool false, .bool false, .str (⟨#[]⟩ : ByteArray), .str (⟨#[]⟩ : ByteArray), .str (⟨#[]⟩ : ByteArray), .str (⟨#[]⟩ : ByteArray), .str (⟨#[]⟩ : ByteArray), .int .u8 0, .int .u64 0, .int .u64 0, .int .u8 0, .str (⟨#[]⟩ : ByteArray), .int .u64 0, .int .i64 0, .str (⟨#[]⟩ : ByteArray), .str (⟨#[]⟩ : ByteArray), .str (⟨#[]⟩ : ByteArray)]]⟩ [0, 3])
             (.ask (!(decide (a1.source = (⟨#[]⟩ : ByteArray))))
               (.need [b0.length < 4611686018427387904, ∀ o ∈ b0, o.Fine]
                 (.ask (cond (cond (cond (!((Z1 (7 : Int) a1.source b0).2)) true (((Z1 (7 : Int) a1.source b0).1).deleting)) true (!((((Z1 (7 : Int) a1.source b0).1).phase) == (11 : Int)))) true (decide ((((Z1 (7 : Int) a1.source b0).1).got) > a1.size)))
                   (.leaf .ret ⟨Z9 99 [(6, .ptr 1 0)], [.vec true ⟨.obj, b0⟩, .cells 39 [.int .u8 0, .int .u8 0, .str (⟨#[]⟩ : ByteArray), .int .u64 0, .int .u64 0, .bool false, .bool false, .str (⟨#[]⟩ : ByteArray), .int .i64 0, .int .i64 0, .int .u8 0, .bool false, .bool false, .str (⟨#[]⟩ : ByteArray), .str (⟨#[]⟩ : ByteArray), .str (⟨#[]⟩ : ByteArray), .str (⟨#[]⟩ : ByteArray), .str (⟨#[]⟩ : ByteArray), .int .u8 0, .int .u64 0, .int .u64 0, .int .u8 0, .str (⟨#[]⟩ : ByteArray), .int .u64 0, .int .i64 0, .str (⟨#[]⟩ : ByteArray), .str (⟨#[]⟩ : ByteArray), .str (⟨#[]⟩ : ByteArray)]]⟩ [0, 3])
                   (.leaf .ret ⟨Z9 99 [(6, .ptr 1 0)], [.vec true ⟨.obj, b0⟩, .cells 39 (ac (Z13 ({ a1 with zone := ((Z1 (1 : Int) a1.cls b0).1).zone, phase := (2 : Int), num := (IntKind.u64.wrap (a2 + (1 : Int))) } : XObj)))]⟩ [0, 3])))
               (.leaf .ret ⟨Z9 99 [(6, .ptr 1 0)], [.vec true ⟨.obj, b0⟩, .cells 39 (ac (Z13 ({ a1 with zone := ((Z1 (1 : Int) a1.cls b0).1).zone, phase := (2 : Int), num := (IntKind.u64.wrap (a2 + (1 : Int))) } : XObj)))]⟩ [0, 3])))
           (.ask (cond (!((Z1 (1 : Int) a1.cls b0).2)) true (decide ((((Zc a1 b0).1).zone) = (⟨#[]⟩ : ByteArray))))
             (.leaf .ret ⟨Z9 99 [(6, .ptr 1 0)], [.vec true ⟨.obj, b0⟩, .cells 39 [.int .u8 0, .int .u8 0, .str (⟨#[]⟩ : ByteArray), .int .u64 0, .int .u64 0, .bool false, .bool false, .str (⟨#[]⟩ : ByteArray), .int .i64 0, .int .i64 0, .int .u8 0, .bool false, .bool false, .str (⟨#[]⟩ : ByteArray), .str (⟨#[]⟩ : ByteArray), .str (⟨#[]⟩ : ByteArray), .str (⟨#[]⟩ : ByteArray), .str (⟨#[]⟩ : ByteArray), .int .u8 0, .int .u64 0, .int .u64 0, .int .u8 0, .str (⟨#[]⟩ : ByteArray), .int .u64 0, .int .i64 0, .str (⟨#[]⟩ : ByteArray), .str (⟨#[]⟩ : ByteArray), .str (⟨#[]⟩ : ByteArray)]]⟩ [0, 3])
             (.ask (!(decide (a1.source = (⟨#[]⟩ : ByteArray))))
               (.need [b0.length < 4611686018427387904, ∀ o ∈ b0, o.Fine]
                 (.ask (cond (cond (cond (!((Z1 (7 : Int) a1.source b0).2)) true (((Z1 (7 : Int) a1.source b0).1).deleting)) true (!((((Z1 (7 : Int) a1.source b0).1).phase) == (11 : Int)))) true (decide ((((Z1 (7 : Int) a1.source b0).1).got) > a1.size)))
                   (.leaf .ret ⟨Z9 99 [(6, .ptr 1 0)], [.vec true ⟨.obj, b0⟩, .cells 39 [.int .u8 0, .int .u8 0, .str (⟨#[]⟩ : ByteArray), .int .u64 0, .int .u64 0, .bool false, .bool false, .str (⟨#[]⟩ : ByteArray), .int .i64 0, .int .i64 0, .int .u8 0, .bool false, .bool false, .str (⟨#[]⟩ : ByteArray), .str (⟨#[]⟩ : ByteArray), .str (⟨#[]⟩ : ByteArray), .str (⟨#[]⟩ : ByteArray), .str (⟨#[]⟩ : ByteArray), .int .u8 0, .int .u64 0, .int .u64 0, .int .u8 0, .str (⟨#[]⟩ : ByteArray), .int .u64 0, .int .i64 0, .str (⟨#[]⟩ : ByteArray), .str (⟨#[]⟩ : ByteArray), .str (⟨#[]⟩ : ByteArray)]]⟩ [0, 3])
                   (.leaf .ret ⟨Z9 99 [(6, .ptr 1 0)], [.vec true ⟨.obj, b0⟩, .cells 39 (ac (Z13 ({ a1 with zone := ((Zc a1 b0).1).zone, phase := (2 : Int), num := (IntKind.u64.wrap (a2 + (1 : Int))) } : XObj)))]⟩ [0, 3])))
               (.leaf .ret ⟨Z9 99 [(6, .ptr 1 0)], [.vec true ⟨.obj, b0⟩, .cells 39 (ac (Z13 ({ a1 with zone := ((Zc a1 b0).1).zone, phase := (2 : Int), num := (IntKind.u64.wrap (a2 + (1 : Int))) } : XObj)))]⟩ [0, 3]))))))))
theorem Z1ed (a1 : XObj) (a2 : Int) (b0 : List XObj) (hp0 : b0.length ≤ 64) (hp1 : ∀ o ∈ b0, o.Fine) (hp2 : a1.Fine) : Tr Tryz.prog 1 (Z3a Tryz.f26) (Z1f Tryz.f26 [.agg [.vec 0], .agg (oc a1), .int .u64 a2] [.vec true ⟨.obj, b0⟩]) (Z4a Tryz.prog Tryz.f26 (.agg (ac (Z1c a1 a2 b0))) [.vec true ⟨.obj, b0⟩]) := by
 refine Z20 (kok _ _ _ _ _ _) (E := Z24d) (L := Z2a) 60 9999 Z14.none (Z16f a1 a2 b0) (by kernel_rfl) (by kernel_rfl) (by kernel_rfl) ?_
 unfold Z16f
 refine ⟨Z6 (by (try refine fun (_ : _ = _) => ?_); first | assumption | omega | exact of_len _ (by first | assumption | omega | exact Nat.le_trans (w12_few_len _) (by decide)) | exact r12_Uniq_len _ (by first | assumption | omega | exact Nat.le_trans (w12_few_len _) (by decide)) | exact Nat.le_trans (w12_few_len _) (by decide) | decide | (simp only [List.length_append, List.length_cons, List.length_nil]; have := w12_few_len a0; omega)) (Z6 (by (try refine fun (_ : _ = _) => ?_); first | assumption | exact Z4c _ (by first | assumption | exact w12_few_fine (by assumption)) | exact r12_Uniq_fine _ (by first | assumption | exact w12_few_fine (by assumption)) | exact w12_few_fine (by assumption) | exact cons2_fine hp1 ⟨hp1.2.2.2.2.2.2.2.1, Int.le_refl 0, (by decide : (0 : Int) ≤ 18446744073709551615), Nat.zero_le _, Nat.zero_le _, Nat.zero_le _, Z6e _, Nat.zero_le _, Nat.zero_le _⟩ (w12_few_fine hp0) | (simp only [List.mem_cons, List.not_mem_nil, or_false, forall_eq_or_imp, forall_eq, XObj.Fine, Z4e]; decide)) (Z10)), ?_⟩
 refine ⟨fun h0 => ?_, fun h0 => ?_⟩
 · refine ⟨Z6 (by (try refine fun (_ : _ = _) => ?_); first | assumption | exact Z43 _ _ _ (by first | assumption | exact Z4c _ (by first | assumption | exact w12_few_fine (by assumption)) | exact r12_Uniq_fine _ (by first | assumption | exact w12_few_fine (by assumption)) | exact w12_few_fine (by assumption)) | exact r12_Get_fine _ _ _ (by first | assumption | exact Z4c _ (by first | assumption | exact w12_few_fine (by assumption)) | exact r12_Uniq_fine _ (by first | assumption | exact w12_few_fine (by assumption)) | exact w12_few_fine (by assumption)) | exact Z5b | exact hp1 _ (Z33 (by assumption)) | exact r12_Uniq_fine _ (by assumption) _ (Z33 (by assumption)) | exact Z4c _ (by assumption) _ (Z33 (by assumption)) | exact w12_few_fine (by assumption) _ (Z33 (by assumption)) | exact hp1 | exact hp0 | (refine ⟨?_, ?_, ?_, ?_, ?_, ?_, ?_, ?_, ?_⟩ <;> first | assumption | decide | (simp only [Z4e]; decide))) (Z10), ?_⟩
   have hF : Z1c a1 a2 b0 = (Z13 ({ ((Zad b0 a1).1) with claim := Z5d a1, phase := (3 : Int) } : XObj)) := by first | exact (Zb h0 rfl) | simp only [Z1c, h0, cond_true, cond_false]
   exact ⟨trivial, .inl (by first | (rw [hF]; kernel_rfl) | kernel_rfl), by first | (rw [hF]; kernel_rfl) | kernel_rfl⟩
 · refine ⟨Z6 (by (try refine fun (_ : _ = _) => ?_); first | assumption | omega | exact Z6d _ (by first | assumption | omega | exact Nat.le_trans (w12_few_len _) (by decide)) | exact r12_Uniq_short _ (by first | assumption | omega | exact Nat.le_trans (w12_few_len _) (by decide)) | exact Nat.lt_of_le_of_lt (w12_few_len _) (by decide) | decide | (simp only [List.length_append, List.length_cons, List.length_nil]; have := w12_few_len a0; omega)) (Z6 (by (try refine fun (_ : _ = _) => ?_); first | assumption | exact Z4c _ (by first | assumption | exact w12_few_fine (by assumption)) | exact r12_Uniq_fine _ (by first | assumption | exact w12_few_fine (by assumption)) | exact w12_few_fine (by assumption) | exact cons2_fine hp1 ⟨hp1.2.2.2.2.2.2.2.1, Int.le_refl 0, (by decide : (0 : Int) ≤ 18446744073709551615), Nat.zero_le _, Nat.zero_le _, Nat.zero_le _, Z6e _, Nat.zero_le _, Nat.zero_le _⟩ (w12_few_fine hp0) | (simp only [List.mem_cons, List.not_mem_nil, or_false, forall_eq_or_imp, forall_eq, XObj.Fine, Z4e]; decide)) (Z10)), ?_⟩
   refine ⟨Z6 (by (try refine fun (_ : _ = _) => ?_); first | assumption | omega | exact Z6d _ (by first | assumption | omega | exact Nat.le_trans (w12_few_len _) (by decide)) | exact r12_Uniq_short _ (by first | assumption | omega | exact Nat.le_trans (w12_few_len _) (by decide)) | exact Nat.lt_of_le_of_lt (w12_few_len _) (by decide) | decide | (simp only [List.length_append, List.length_cons, List.length_nil]; have := w12_few_len a0; omega)) (Z6 (by (try refine fun (_ : _ = _) => ?_); first | assumption | exact Z4c _ (by first | assumption | exact w12_few_fine (by assumption)) | exact r12_Uniq_fine _ (by first | assumption | exact w12_few_fine (by assumption)) | exact w12_few_fine (by assumption) | exact cons2_fine hp1 ⟨hp1.2.2.2.2.2.2.2.1, Int.le_refl 0, (by decide : (0 : Int) ≤ 18446744073709551615), Nat.zero_le _, Nat.zero_le _, Nat.zero_le _, Z6e _, Nat.zero_le _, Nat.zero_le _⟩ (w12_few_fine hp0) | (simp only [List.mem_cons, List.not_mem_nil, or_false, forall_eq_or_imp, forall_eq, XObj.Fine, Z4e]; decide)) (Z10)), ?_⟩
   refine ⟨fun h1 => ?_, fun h1 => ?_⟩
   · refine ⟨fun h2 => ?_, fun h2 => ?_⟩
     · have hF : Z1c a1 a2 b0 = (default : XAct) := by first | exact (Z5 h0 (Zb h1 (Zb h2 rfl))) | simp only [Z1c, h0, h1, h2, cond_true, cond_false]
       exact ⟨trivial, .inl (by first | (rw [hF]; kernel_rfl) | kernel_rfl), by first | (rw [hF]; kernel_rfl) | kernel_rfl⟩
     · refine ⟨fun h3 => ?_, fun h3 => ?_⟩
       · refine ⟨Z6 (by (try refine fun (_ : _ = _) => ?_); first | assumption | omega | exact Z6d _ (by first | assumption | omega | exact Nat.le_trans (w12_few_len _) (by decide)) | exact r12_Uniq_short _ (by first | assumption | omega | exact Nat.le_trans (w12_few_len _) (by decide)) | exact Nat.lt_of_le_of_lt (w12_few_len _) (by decide) | decide | (simp only [List.length_append, List.length_cons, List.length_nil]; have := w12_few_len a0; omega)) (Z6 (by (try refine fun (_ : _ = _) => ?_); first | assumption | exact Z4c _ (by first | assumption | exact w12_few_fine (by assumption)) | exact r12_Uniq_fine _ (by first | assumption | exact w12_few_fine (by assumption)) | exact w12_few_fine (by assumption) | exact cons2_fine hp1 ⟨hp1.2.2.2.2.2.2.2.1, Int.le_refl 0, (by decide : (0 : Int) ≤ 18446744073709551615), Nat.zero_le _, Nat.zero_le _, Nat.zero_le _, Z6e _, Nat.zero_le _, Nat.zero_le _⟩ (w12_few_fine hp0) | (simp only [List.mem_cons, List.not_mem_nil, or_false, forall_eq_or_imp, forall_eq, XObj.Fine, Z4e]; decide)) (Z10)), ?_⟩
         refine ⟨fun h4 => ?_, fun h4 => ?_⟩
         · have hF : Z1c a1 a2 b0 = (default : XAct) := by first | exact (Z5 h0 (Zb h1 (Z5 h2 (Zb h3 (Zb h4 rfl))))) | simp only [Z1c, h0, h1, h2, h3, h4, cond_true, cond_false]
           exact ⟨trivial, .inl (by first | (rw [hF]; kernel_rfl) | kernel_rfl), by first | (rw [hF]; kernel_rfl) | kernel_rfl⟩
         · have hF : Z1c a1 a2 b0 = (Z13 ({ a1 with zone := ((Z1 (1 : Int) a1.cls b0).1).zone, phase := (2 : Int), num := (IntKind.u64.wrap (a2 + (1 : Int))) } : XObj)) := by first | exact (Z5 h0 (Zb h1 (Z5 h2 (Zb h3 (Z5 h4 rfl))))) | simp only [Z1c, h0, h1, h2, h3, h4, cond_true, cond_false]
           exact ⟨trivial, .inl (by first | (rw [hF]; kernel_rfl) | kernel_rfl), by first | (rw [hF]; kernel_rfl) | kernel_rfl⟩
       · have hF : Z1c a1 a2 b0 = (Z13 ({ a1 with zone := ((Z1 (1 : Int) a1.cls b0).1).zone, phase := (2 : Int), num := (IntKind.u64.wrap (a2 + (1 : Int))) } : XObj)) := by first | exact (Z5 h0 (Zb h1 (Z5 h2 (Z5 h3 rfl)))) | simp only [Z1c, h0, h1, h2, h3, cond_true, cond_false]
         exact ⟨trivial, .inl (by first | (rw [hF]; kernel_rfl) | kernel_rfl), by first | (rw [hF]; kernel_rfl) | kernel_rfl⟩
   · refine ⟨fun h2 => ?_, fun h2 => ?_⟩
     · have hF : Z1c a1 a2 b0 = (default : XAct) := by first | exact (Z5 h0 (Z5 h1 (Zb h2 rfl))) | simp only [Z1c, h0, h1, h2, cond_true, cond_false]
       exact ⟨trivial, .inl (by first | (rw [hF]; kernel_rfl) | kernel_rfl), by first | (rw [hF]; kernel_rfl) | kernel_rfl⟩
     · refine ⟨fun h3 => ?_, fun h3 => ?_⟩
       · refine ⟨Z6 (by (try refine fun (_ : _ = _) => ?_); first | assumption | omega | exact Z6d _ (by first | assumption | omega | exact Nat.le_trans (w12_few_len _) (by decide)) | exact r12_Uniq_short _ (by first | assumption | omega | exact Nat.le_trans (w12_few_len _) (by decide)) | exact Nat.lt_of_le_of_lt (w12_few_len _) (by decide) | decide | (simp only [List.length_append, List.length_cons, List.length_nil]; have := w12_few_len a0; omega)) (Z6 (by (try refine fun (_ : _ = _) => ?_); first | assumption | exact Z4c _ (by first | assumption | exact w12_few_fine (by assumption)) | exact r12_Uniq_fine _ (by first | assumption | exact w12_few_fine (by assumption)) | exact w12_few_fine (by assumption) | exact cons2_fine hp1 ⟨hp1.2.2.2.2.2.2.2.1, Int.le_refl 0, (by decide : (0 : Int) ≤ 18446744073709551615), Nat.zero_le _, Nat.zero_le _, Nat.zero_le _, Z6e _, Nat.zero_le _, Nat.zero_le _⟩ (w12_few_fine hp0) | (simp only [List.mem_cons, List.not_mem_nil, or_false, forall_eq_or_imp, forall_eq, XObj.Fine, Z4e]; decide)) (Z10)), ?_⟩
         refine ⟨fun h4 => ?_, fun h4 => ?_⟩
         · have hF : Z1c a1 a2 b0 = (default : XAct) := by first | exact (Z5 h0 (Z5 h1 (Z5 h2 (Zb h3 (Zb h4 rfl))))) | simp only [Z1c, h0, h1, h2, h3, h4, cond_true, cond_false]
           exact ⟨trivial, .inl (by first | (rw [hF]; kernel_rfl) | kernel_rfl), by first | (rw [hF]; kernel_rfl) | kernel_rfl⟩
         · have hF : Z1c a1 a2 b0 = (Z13 ({ a1 with zone := ((Zc a1 b0).1).zone, phase := (2 : Int), num := (IntKind.u64.wrap (a2 + (1 : Int))) } : XObj)) := by first | exact (Z5 h0 (Z5 h1 (Z5 h2 (Zb h3 (Z5 h4 rfl))))) | simp only [Z1c, h0, h1, h2, h3, h4, cond_true, cond_false]
           exact ⟨trivial, .inl (by first | (rw [hF]; kernel_rfl) | kernel_rfl), by first | (rw [hF]; kernel_rfl) | kernel_rfl⟩
       · have hF : Z1c a1 a2 b0 = (Z13 ({ a1 with zone := ((Zc a1 b0).1).zone, phase := (2 : Int), num := (IntKind.u64.wrap (a2 + (1 : Int))) } : XObj)) := by first | exact (Z5 h0 (Z5 h1 (Z5 h2 (Z5 h3 rfl)))) | simp only [Z1c, h0, h1, h2, h3, cond_true, cond_false]
         exact ⟨trivial, .inl (by first | (rw [hF]; kernel_rfl) | kernel_rfl), by first | (rw [hF]; kernel_rfl) | kernel_rfl⟩
noncomputable def Ze4 : Fact Tryz.prog := Z50 26 Tryz.f26 (by kernel_rfl) rfl (by kernel_rfl) [.agg [.vec 0], .st .obj, .c (.int .u64)] [.vec true .obj] true (fun t u => .agg (ac (Z1c t.2.1 t.2.2.1 u.1))) (fun t u => HPL.enc _ u) (fun t u => [u.1.length ≤ 64, ∀ o ∈ u.1, o.Fine, t.2.1.Fine])
 (fun _ _ _ => rfl) (fun t u => by kernel_rfl) (fun t u => by kernel_rfl) (fun t u h => Z1ed t.2.1 t.2.2.1 u.1 (h _ List.mem_cons_self) (h _ (List.mem_cons_of_mem _ List.mem_cons_self)) (h _ (List.mem_cons_of_mem _ (List.mem_cons_of_mem _ List.mem_cons_self))))
noncomputable def E_bind_Claim : Env := Z57 (P := Tryz.prog) [Z1af, Z69, Za1, Z109, Zdc, Zb2, Zc7, Z9a, Ze6, Zc8, Ze4] [] [] ckf
def Z11 (a0 : List XObj) (a1 : Int) (a2 : ByteArray) : XAct :=
 cond (cond (!((Z1 (3 : Int) a2 (Z4 a0)).2)) true (decide ((Z2c ((Z1 (3 : Int) a2 (Z4 a0)).1)) = (⟨#[]⟩ : ByteArray))))
  (default : XAct)
  (cond ((((Z1 (3 : Int) a2 (Z4 a0)).1).phase) == (3 : Int))
    (cond (cond (cond (Z4f (6 : Int) (Z4 a0) ((Z1 (3 : Int) a2 (Z4 a0)).1)) true (!(((Z1 (3 : Int) a2 (Z4 a0)).1).deleting))) true (Z5a (5 : Int) (Z4 a0) ((Z1 (3 : Int) a2 (Z4 a0)).1)))
      (default : XAct)
      (Z4b ((Z1 (3 : Int) a2 (Z4 a0)).1)))
    (cond ((Z1b a0 a2 (Z4 a0) (default : XObj) false).2)
      (Z13 ({ ((Z1 (3 : Int) a2 (Z4 a0)).1) with got := (((Z1b a0 a2 (Z4 a0) (default : XObj) false).1).got), zone := ((Z1b a0 a2 (Z4 a0) (default : XObj) false).1).zone, volume := ((Z1b a0 a2 (Z4 a0) (default : XObj) false).1).name, phase := (3 : Int), num := (0 : Int) } : XObj))
      (cond (((Z1 (3 : Int) a2 (Z4 a0)).1).deleting)
        (Z47 ((Z1 (3 : Int) a2 (Z4 a0)).1) a1 (Z4 a0))
        (cond ((((Z1 (3 : Int) a2 (Z4 a0)).1).phase) == (2 : Int))
          (Z3b ((Z1 (3 : Int) a2 (Z4 a0)).1) (Z4 a0))
          (cond ((((Z1 (3 : Int) a2 (Z4 a0)).1).phase) == (1 : Int))
            (Z1c ((Z1 (3 : Int) a2 (Z4 a0)).1) a1 (Z4 a0))
            (default : XAct))))))
def bind_ClaimR (a0 : List XObj) (a1 : Int) (a2 : ByteArray) : RT :=
 (.need [a0.length ≤ 64]
   (.need [(Z4 a0).length < 4611686018427387904, ∀ o ∈ (Z4 a0), o.Fine]
     (.need [((!((Z1 (3 : Int) a2 (Z4 a0)).2)) = false) → (((Z1 (3 : Int) a2 (Z4 a0)).1).Fine)]
       (.ask (cond (!((Z1 (3 : Int) a2 (Z4 a0)).2)) true (decide ((Z2c ((Z1 (3 : Int) a2 (Z4 a0)).1)) = (⟨#[]⟩ : ByteArray))))
         (.leaf .ret ⟨Z9 102 [(6, .ptr 0 0)], [.cells 39 [.int .u8 0, .int .u8 0, .str (⟨#[]⟩ : ByteArray), .int .u64 0, .int .u64 0, .bool false, .bool false, .str (⟨#[]⟩ : ByteArray), .int .i64 0, .int .i64 0, .int .u8 0, .bool false, .bool false, .str (⟨#[]⟩ : ByteArray), .str (⟨#[]⟩ : ByteArray), .str (⟨#[]⟩ : ByteArray), .str (⟨#[]⟩ : ByteArray), .str (⟨#[]⟩ : ByteArray), .int .u8 0, .int .u64 0, .int .u64 0, .int .u8 0, .str (⟨#[]⟩ : ByteArray), .int .u64 0, .int .i64 0, .str (⟨#[]⟩ : ByteArray), .str (⟨#[]⟩ : ByteArray), .str (⟨#[]⟩ : ByteArray)]]⟩ [])
         (.ask ((((Z1 (3 : Int) a2 (Z4 a0)).1).phase) == (3 : Int))
           (.need [(Z4 a0).length < 4611686018427387904, ∀ o ∈ (Z4 a0), o.Fine]
             (.need [((cond (Z4f (6 : Int) (Z4 a0) ((Z1 (3 : Int) a2 (Z4 a0)).1)) true (!(((Z1 (3 : Int) a2 (Z4 a0)).1).deleting))) = false) → ((Z4 a0).length < 4611686018427387904), ((cond (Z4f (6 : Int) (Z4 a0) ((Z1 (3 : Int) a2 (Z4 a0)).1)) true (!(((Z1 (3 : Int) a2 (Z4 a0)).1).deleting))) = false) → (∀ o ∈ (Z4 a0), o.Fine)]
               (.ask (cond (cond (Z4f (6 : Int) (Z4 a0) ((Z1 (3 : Int) a2 (Z4 a0)).1)) true (!(((Z1 (3 : Int) a2 (Z4 a0)).1).deleting))) true (Z5a (5 : Int) (Z4 a0) ((Z1 (3 : Int) a2 (Z4 a0)).1)))
                 (.leaf .ret ⟨Z9 102 [(6, .ptr 0 0)], [.cells 39 [.int .u8 0, .int .u8 0, .str (⟨#[]⟩ : ByteArray), .int .u64 0, .int .u64 0, .bool false, .bool false, .str (⟨#[]⟩ : ByteArray), .int .i64 0, .int .i64 0, .int .u8 0, .bool false, .bool false, .str (⟨#[]⟩ : ByteArray), .str (⟨#[]⟩ : ByteArray), .str (⟨#[]⟩ : ByteArray), .str (⟨#[]⟩ : ByteArray), .str (⟨#[]⟩ : ByteArray), .int .u8 0, .int .u64 0, .int .u64 0, .int .u8 0, .str (⟨#[]⟩ : ByteArray), .int .u64 0, .int .i64 0, .str (⟨#[]⟩ : ByteArray), .str (⟨#[]⟩ : ByteArray), .str (⟨#[]⟩ : ByteArray)]]⟩ [])
                 (.leaf .ret ⟨Z9 102 [(6, .ptr 0 0)], [.cells 39 (ac (Z4b ((Z1 (3 : Int) a2 (Z4 a0)).1)))]⟩ []))))
           (.ask ((Z1b a0 a2 (Z4 a0) (default : XObj) false).2)
             (.leaf .ret ⟨Z9 102 [(6, .ptr 0 0)], [.cells 39 (ac (Z13 ({ ((Z1 (3 : Int) a2 (Z4 a0)).1) with got := (((Z1b a0 a2 (Z4 a0) (default : XObj) false).1).got), zone := ((Z1b a0 a2 (Z4 a0) (default : XObj) false).1).zone, volume := ((Z1b a0 a2 (Z4 a0) (default : XObj) false).1).name, phase := (3 : Int), num := (0 : Int) } : XObj)))]⟩ [])
             (.ask (((Z1 (3 : Int) a2 (Z4 a0)).1).deleting)
               (.need [((Z1 (3 : Int) a2 (Z4 a0)).1).Fine]
                 (.leaf .ret ⟨Z9 102 [(6, .ptr 0 0)], [.cells 39 (ac (Z47 ((Z1 (3 : Int) a2 (Z4 a0)).1) a1 (Z4 a0)))]⟩ []))
               (.ask ((((Z1 (3 : Int) a2 (Z4 a0)).1).phase) == (2 : Int))
                 (.need [(Z4 a0).length < 4611686018427387904, ∀ o ∈ (Z4 a0), o.Fine, ((Z1 (3 : Int) a2 (Z4 a0)).1).Fine]
                   (.leaf .ret ⟨Z9 102 [(6, .ptr 0 0)], [.cells 39 (ac (Z3b ((Z1 (3 : Int) a2 (Z4 a0)).1) (Z4 a0)))]⟩ []))
                 (.ask ((((Z1 (3 : Int) a2 (Z4 a0)).1).phase) == (1 : Int))
                   (.need [(Z4 a0).length ≤ 64, ∀ o ∈ (Z4 a0), o.Fine, ((Z1 (3 : Int) a2 (Z4 a0)).1).Fine]
                     (.leaf .ret ⟨Z9 102 [(6, .ptr 0 0)], [.cells 39 (ac (Z1c ((Z1 (3 : Int) a2 (Z4 a0)).1) a1 (Z4 a0)))]⟩ []))
                   (.leaf .ret ⟨Z9 102 [(6, .ptr 0 0)], [.cells 39 [.int .u8 0, .int .u8 0, .str (⟨#[]⟩ : ByteArray), .int .u64 0, .int .u64 0, .bool false, .bool false, .str (⟨#[]⟩ : ByteArray), .int .i64 0, .int .i64 0, .int .u8 0, .bool false, .bool false, .str (⟨#[]⟩ : ByteArray), .str (⟨#[]⟩ : ByteArray), .str (⟨#[]⟩ : ByteArray), .str (⟨#[]⟩ : ByteArray), .str (⟨#[]⟩ : ByteArray), .int .u8 0, .int .u64 0, .int .u64 0, .int .u8 0, .str (⟨#[]⟩ : ByteArray), .int .u64 0, .int .i64 0, .str (⟨#[]⟩ : ByteArray), .str (⟨#[]⟩ : ByteArray), .str (⟨#[]⟩ : ByteArray)]]⟩ []))))))))))
theorem bind_ClaimF_tr (a0 : List XObj) (a1 : Int) (a2 : ByteArray) (hp0 : a0.length ≤ 64) (hp1 : ∀ o ∈ a0, o.Fine) : Tr Tryz.prog 0 (Z3a Tryz.f6) (Z1f Tryz.f6 [.coll ⟨.obj, a0⟩, .int .u64 a1, .str a2] []) (Z4a Tryz.prog Tryz.f6 (.agg (ac (Z11 a0 a1 a2))) []) := by
 refine Z20 (kok _ _ _ _ _ _) (E := E_bind_Claim) (L := (Z61 [(0, Z1db a0 a1 a2, [0, 2, 4, 5, 6, 7, 8, 9, 1], Z130 a0 a1 a2)])) 60 9999 (Z14.oneR (g := Z49 Tryz.f6 0) (b := 0) (by kernel_rfl) (by kernel_rfl) (by kernel_rfl) (by kernel_rfl) (fun Q h => Z272 a0 a1 a2 hp0 hp1 Q h)) (bind_ClaimR a0 a1 a2) (by kernel_rfl) (by kernel_rfl) (by kernel_rfl) ?_
 unfold bind_ClaimR
 refine ⟨Z6 (by (try refine fun (_ : _ = _) => ?_); first | assumption | omega | exact of_len _ (by first | assumption | omega | exact Nat.le_trans (w12_few_len _) (by decide)) | exact r12_Uniq_len _ (by first | assumption | omega | exact Nat.le_trans (w12_few_len _) (by decide)) | exact Nat.le_trans (w12_few_len _) (by decide) | decide | (simp only [List.length_append, List.length_cons, List.length_nil]; have := w12_few_len a0; omega)) (Z10), ?_⟩
 refine ⟨Z6 (by (try refine fun (_ : _ = _) => ?_); first | assumption | omega | exact Z6d _ (by first | assumption | omega | exact Nat.le_trans (w12_few_len _) (by decide)) | exact r12_Uniq_short _ (by first | assumption | omega | exact Nat.le_trans (w12_few_len _) (by decide)) | exact Nat.lt_of_le_of_lt (w12_few_len _) (by decide) | decide | (simp only [List.length_append, List.length_cons, List.length_nil]; have := w12_few_len a0; omega)) (Z6 (by (try refine fun (_ : _ = _) => ?_); first | assumption | exact Z4c _ (by first | assumption | exact w12_few_fine (by assumption)) | exact r12_Uniq_fine _ (by first | assumption | exact w12_few_fine (by assumption)) | exact w12_few_fine (by assumption) | exact cons2_fine hp1 ⟨hp1.2.2.2.2.2.2.2.1, Int.le_refl 0, (by decide : (0 : Int) ≤ 18446744073709551615), Nat.zero_le _, Nat.zero_le _, Nat.zero_le _, Z6e _, Nat.zero_le _, Nat.zero_le _⟩ (w12_few_fine hp0) | (simp only [List.mem_cons, List.not_mem_nil, or_false, forall_eq_or_imp, forall_eq, XObj.Fine, Z4e]; decide)) (Z10)), ?_⟩
 refine ⟨Z6 (by (try refine fun (_ : _ = _) => ?_); first | assumption | exact Z43 _ _ _ (by first | assumption | exact Z4c _ (by first | assumption | exact w12_few_fine (by assumption)) | exact r12_Uniq_fine _ (by first | assumption | exact w12_few_fine (by assumption)) | exact w12_few_fine (by assumption)) | exact r12_Get_fine _ _ _ (by first | assumption | exact Z4c _ (by first | assumption | exact w12_few_fine (by assumption)) | exact r12_Uniq_fine _ (by first | assumption | exact w12_few_fine (by assumption)) | exact w12_few_fine (by assumption)) | exact Z5b | exact hp1 _ (Z33 (by assumption)) | exact r12_Uniq_fine _ (by assumption) _ (Z33 (by assumption)) | exact Z4c _ (by assumption) _ (Z33 (by assumption)) | exact w12_few_fine (by assumption) _ (Z33 (by assumption)) | exact hp1 | exact hp0 | (refine ⟨?_, ?_, ?_, ?_, ?_, ?_, ?_, ?_, ?_⟩ <;> first | assumption | decide | (simp only [Z4e]; decide))) (Z10), ?_⟩
 refine ⟨fun h0 => ?_, fun h0 => ?_⟩
 · have hF : Z11 a0 a1 a2 = (default : XAct) := by first | exact (Zb h0 rfl) | simp only [Z11, h0, cond_true, cond_false]
   exact ⟨trivial, .inl (by first | (rw [hF]; kernel_rfl) | kernel_rfl), by first | (rw [hF]; kernel_rfl) | kernel_rfl⟩
 · refine ⟨fun h1 => ?_, fun h1 => ?_⟩
   · refine ⟨Z6 (by (try refine fun (_ : _ = _) => ?_); first | assumption | omega | exact Z6d _ (by first | assumption | omega | exact Nat.le_trans (w12_few_len _) (by decide)) | exact r12_Uniq_short _ (by first | assumption | omega | exact Nat.le_trans (w12_few_len _) (by decide)) | exact Nat.lt_of_le_of_lt (w12_few_len _) (by decide) | decide | (simp only [List.length_append, List.length_cons, List.length_nil]; have := w12_few_len a0; omega)) (Z6 (by (try refine fun (_ : _ = _) => ?_); first | assumption | exact Z4c _ (by first | assumption | exact w12_few_fine (by assumption)) | exact r12_Uniq_fine _ (by first | assumption | exact w12_few_fine (by assumption)) | exact w12_few_fine (by assumption) | exact cons2_fine hp1 ⟨hp1.2.2.2.2.2.2.2.1, Int.le_refl 0, (by decide : (0 : Int) ≤ 18446744073709551615), Nat.zero_le _, Nat.zero_le _, Nat.zero_le _, Z6e _, Nat.zero_le _, Nat.zero_le _⟩ (w12_few_fine hp0) | (simp only [List.mem_cons, List.not_mem_nil, or_false, forall_eq_or_imp, forall_eq, XObj.Fine, Z4e]; decide)) (Z10)), ?_⟩
     refine ⟨Z6 (by (try refine fun (_ : _ = _) => ?_); first | assumption | omega | exact Z6d _ (by first | assumption | omega | exact Nat.le_trans (w12_few_len _) (by decide)) | exact r12_Uniq_short _ (by first | assumption | omega | exact Nat.le_trans (w12_few_len _) (by decide)) | exact Nat.lt_of_le_of_lt (w12_few_len _) (by decide) | decide | (simp only [List.length_append, List.length_cons, List.length_nil]; have := w12_few_len a0; omega)) (Z6 (by (try refine fun (_ : _ = _) => ?_); first | assumption | exact Z4c _ (by first | assumption | exact w12_few_fine (by assumption)) | exact r12_Uniq_fine _ (by first | assumption | exact w12_few_fine (by assumption)) | exact w12_few_fine (by assumption) | exact cons2_fine hp1 ⟨hp1.2.2.2.2.2.2.2.1, Int.le_refl 0, (by decide : (0 : Int) ≤ 18446744073709551615), Nat.zero_le _, Nat.zero_le _, Nat.zero_le _, Z6e _, Nat.zero_le _, Nat.zero_le _⟩ (w12_few_fine hp0) | (simp only [List.mem_cons, List.not_mem_nil, or_false, forall_eq_or_imp, forall_eq, XObj.Fine, Z4e]; decide)) (Z10)), ?_⟩
     refine ⟨fun h2 => ?_, fun h2 => ?_⟩
     · have hF : Z11 a0 a1 a2 = (default : XAct) := by first | exact (Z5 h0 (Zb h1 (Zb h2 rfl))) | simp only [Z11, h0, h1, h2, cond_true, cond_false]
       exact ⟨trivial, .inl (by first | (rw [hF]; kernel_rfl) | kernel_rfl), by first | (rw [hF]; kernel_rfl) | kernel_rfl⟩
     · have hF : Z11 a0 a1 a2 = (Z4b ((Z1 (3 : Int) a2 (Z4 a0)).1)) := by first | exact (Z5 h0 (Zb h1 (Z5 h2 rfl))) | simp only [Z11, h0, h1, h2, cond_true, cond_false]
       exact ⟨trivial, .inl (by first | (rw [hF]; kernel_rfl) | kernel_rfl), by first | (rw [hF]; kernel_rfl) | kernel_rfl⟩
   · refine ⟨fun h2 => ?_, fun h2 => ?_⟩
     · have hF : Z11 a0 a1 a2 = (Z13 ({ ((Z1 (3 : Int) a2 (Z4 a0)).1) with got := (((Z1b a0 a2 (Z4 a0) (default : XObj) false).1).got), zone := ((Z1b a0 a2 (Z4 a0) (default : XObj) false).1).zone, volume := ((Z1b a0 a2 (Z4 a0) (default : XObj) false).1).name, phase := (3 : Int), num := (0 : Int) } : XObj)) := by first | exact (Z5 h0 (Z5 h1 (Zb h2 rfl))) | simp only [Z11, h0, h1, h2, cond_true, cond_false]
       exact ⟨trivial, .inl (by first | (rw [hF]; kernel_rfl) | kernel_rfl), by first | (rw [hF]; kernel_rfl) | kernel_rfl⟩
     · refine ⟨fun h3 => ?_, fun h3 => ?_⟩
       · refine ⟨Z6 (by (try refine fun (_ : _ = _) => ?_); first | assumption | exact Z43 _ _ _ (by first | assumption | exact Z4c _ (by first | assumption | exact w12_few_fine (by assumption)) | exact r12_Uniq_fine _ (by first | assumption | exact w12_few_fine (by assumption)) | exact w12_few_fine (by assumption)) | exact r12_Get_fine _ _ _ (by first | assumption | exact Z4c _ (by first | assumption | exact w12_few_fine (by assumption)) | exact r12_Uniq_fine _ (by first | assumption | exact w12_few_fine (by assumption)) | exact w12_few_fine (by assumption)) | exact Z5b | exact hp1 _ (Z33 (by assumption)) | exact r12_Uniq_fine _ (by assumption) _ (Z33 (by assumption)) | exact Z4c _ (by assumption) _ (Z33 (by assumption)) | exact w12_few_fine (by assumption) _ (Z33 (by assumption)) | exact hp1 | exact hp0 | (refine ⟨?_, ?_, ?_, ?_, ?_, ?_, ?_, ?_, ?_⟩ <;> first | assumption | decide | (simp only [Z4e]; decide))) (Z10), ?_⟩
         have hF : Z11 a0 a1 a2 = (Z47 ((Z1 (3 : Int) a2 (Z4 a0)).1) a1 (Z4 a0)) := by first | exact (Z5 h0 (Z5 h1 (Z5 h2 (Zb h3 rfl)))) | simp only [Z11, h0, h1, h2, h3, cond_true, cond_false]
         exact ⟨trivial, .inl (by first | (rw [hF]; kernel_rfl) | kernel_rfl), by first | (rw [hF]; kernel_rfl) | kernel_rfl⟩
       · refine ⟨fun h4 => ?_, fun h4 => ?_⟩
         · refine ⟨Z6 (by (try refine fun (_ : _ = _) => ?_); first | assumption | omega | exact Z6d _ (by first | assumption | omega | exact Nat.le_trans (w12_few_len _) (by decide)) | exact r12_Uniq_short _ (by first | assumption | omega | exact Nat.le_trans (w12_few_len _) (by decide)) | exact Nat.lt_of_le_of_lt (w12_few_len _) (by decide) | decide | (simp only [List.length_append, List.length_cons, List.length_nil]; have := w12_few_len a0; omega)) (Z6 (by (try refine fun (_ : _ = _) => ?_); first | assumption | exact Z4c _ (by first | assumption | exact w12_few_fine (by assumption)) | exact r12_Uniq_fine _ (by first | assumption | exact w12_few_fine (by assumption)) | exact w12_few_fine (by assumption) | exact cons2_fine hp1 ⟨hp1.2.2.2.2.2.2.2.1, Int.le_refl 0, (by decide : (0 : Int) ≤ 18446744073709551615), Nat.zero_le _, Nat.zero_le _, Nat.zero_le _, Z6e _, Nat.zero_le _, Nat.zero_le _⟩ (w12_few_fine hp0) | (simp only [List.mem_cons, List.not_mem_nil, or_false, forall_eq_or_imp, forall_eq, XObj.Fine, Z4e]; decide)) (Z6 (by (try refine fun (_ : _ = _) => ?_); first | assumption | exact Z43 _ _ _ (by first | assumption | exact Z4c _ (by first | assumption | exact w12_few_fine (by assumption)) | exact r12_Uniq_fine _ (by first | assumption | exact w12_few_fine (by assumption)) | exact w12_few_fine (by assumption)) | exact r12_Get_fine _ _ _ (by first | assumption | exact Z4c _ (by first | assumption | exact w12_few_fine (by assumption)) | exact r12_Uniq_fine _ (by first | assumption | exact w12_few_fine (by assumption)) | exact w12_few_fine (by assumption)) | exact Z5b | exact hp1 _ (Z33 (by assumption)) | exact r12_Uniq_fine _ (by assumption) _ (Z33 (by assumption)) | exact Z4c _ (by assumption) _ (Z33 (by assumption)) | exact w12_few_fine (by assumption) _ (Z33 (by assumption)) | exact hp1 | exact hp0 | (refine ⟨?_, ?_, ?_, ?_, ?_, ?_, ?_, ?_, ?_⟩ <;> first | assumption | decide | (simp only [Z4e]; decide))) (Z10))), ?_⟩
           have hF : Z11 a0 a1 a2 = (Z3b ((Z1 (3 : Int) a2 (Z4 a0)).1) (Z4 a0)) := by first | exact (Z5 h0 (Z5 h1 (Z5 h2 (Z5 h3 (Zb h4 rfl))))) | simp only [Z11, h0, h1, h2, h3, h4, cond_true, cond_false]
           exact ⟨trivial, .inl (by first | (rw [hF]; kernel_rfl) | kernel_rfl), by first | (rw [hF]; kernel_rfl) | kernel_rfl⟩
         · refine ⟨fun h5 => ?_, fun h5 => ?_⟩
           · refine ⟨Z6 (by (try refine fun (_ : _ = _) => ?_); first | assumption | omega | exact of_len _ (by first | assumption | omega | exact Nat.le_trans (w12_few_len _) (by decide)) | exact r12_Uniq_len _ (by first | assumption | omega | exact Nat.le_trans (w12_few_len _) (by decide)) | exact Nat.le_trans (w12_few_len _) (by decide) | decide | (simp only [List.length_append, List.length_cons, List.length_nil]; have := w12_few_len a0; omega)) (Z6 (by (try refine fun (_ : _ = _) => ?_); first | assumption | exact Z4c _ (by first | assumption | exact w12_few_fine (by assumption)) | exact r12_Uniq_fine _ (by first | assumption | exact w12_few_fine (by assumption)) | exact w12_few_fine (by assumption) | exact cons2_fine hp1 ⟨hp1.2.2.2.2.2.2.2.1, Int.le_refl 0, (by decide : (0 : Int) ≤ 18446744073709551615), Nat.zero_le _, Nat.zero_le _, Nat.zero_le _, Z6e _, Nat.zero_le _, Nat.zero_le _⟩ (w12_few_fine hp0) | (simp only [List.mem_cons, List.not_mem_nil, or_false, forall_eq_or_imp, forall_eq, XObj.Fine, Z4e]; decide)) (Z6 (by (try refine fun (_ : _ = _) => ?_); first | assumption | exact Z43 _ _ _ (by first | assumption | exact Z4c _ (by first | assumption | exact w12_few_fine (by assumption)) | exact r12_Uniq_fine _ (by first | assumption | exact w12_few_fine (by assumption)) | exact w12_few_fine (by assumption)) | exact r12_Get_fine _ _ _ (by first | assumption | exact Z4c _ (by first | assumption | exact w12_few_fine (by assumption)) | exact r12_Uniq_fine _ (by first | assumption | exact w12_few_fine (by assumption)) | exact w12_few_fine (by assumption)) | exact Z5b | exact hp1 _ (Z33 (by assumption)) | exact r12_Uniq_fine _ (by assumption) _ (Z33 (by assumption)) | exact Z4c _ (by assumption) _ (Z33 (by assumption)) | exact w12_few_fine (by assumption) _ (Z33 (by assumption)) | exact hp1 | exact hp0 | (refine ⟨?_, ?_, ?_, ?_, ?_, ?_, ?_, ?_, ?_⟩ <;> first | assumption | decide | (simp only [Z4e]; decide))) (Z10))), ?_⟩
             have hF : Z11 a0 a1 a2 = (Z1c ((Z1 (3 : Int) a2 (Z4 a0)).1) a1 (Z4 a0)) := by first | exact (Z5 h0 (Z5 h1 (Z5 h2 (Z5 h3 (Z5 h4 (Zb h5 rfl)))))) | simp only [Z11, h0, h1, h2, h3, h4, h5, cond_true, cond_false]
             exact ⟨trivial, .inl (by first | (rw [hF]; kernel_rfl) | kernel_rfl), by first | (rw [hF]; kernel_rfl) | kernel_rfl⟩
           · have hF : Z11 a0 a1 a2 = (default : XAct) := by first | exact (Z5 h0 (Z5 h1 (Z5 h2 (Z5 h3 (Z5 h4 (Z5 h5 rfl)))))) | simp only [Z11, h0, h1, h2, h3, h4, h5, cond_true, cond_false]
             exact ⟨trivial, .inl (by first | (rw [hF]; kernel_rfl) | kernel_rfl), by first | (rw [hF]; kernel_rfl) | kernel_rfl⟩
noncomputable def bind_Claim_fact : Fact Tryz.prog := Z50 6 Tryz.f6 (by kernel_rfl) rfl (by kernel_rfl) [.c (.coll .obj), .c (.int .u64), .c (.str)] [] true (fun t u => .agg (ac (Z11 t.1 t.2.1 t.2.2.1))) (fun t u => []) (fun t u => [t.1.length ≤ 64, ∀ o ∈ t.1, o.Fine])
 (fun _ _ _ => rfl) (fun t u => by kernel_rfl) (fun t u => by kernel_rfl) (fun t u h => bind_ClaimF_tr t.1 t.2.1 t.2.2.1 (h _ List.mem_cons_self) (h _ (List.mem_cons_of_mem _ List.mem_cons_self)))
end Go.Proofs.YtkledlcmhbjadaaGreatDoor
