/- Bind: what is done next for a volume. -/
import Derived.Test.YtkledlcmhbjadaaGreatDoorDClaim
set_option linter.unusedVariables false
set_option linter.unusedSimpArgs false
set_option maxRecDepth 100000
namespace Go.Proofs.YtkledlcmhbjadaaGreatDoor
open Go Go.Eng
noncomputable def Z1f7 : Env := Z57 (P := Tryz.prog) [] [] [] ckf
def Z23 (a1 : Int) (b0 : List XObj) (b1 : XObj) : Int :=
 a1
def Z119 (a1 : Int) (b0 : List XObj) (b1 : XObj) : RT :=
 (.leaf .ret ⟨Z9 8 [(6, .fn 41 [.ptr 2 0, .ptr 3 0, .ptr 4 0])], [.vec true ⟨.obj, b0⟩, .cells 32 (oc b1), .cells 67 [.vec 0], .cells 27 [.int .u8 a1], .cells 73 [.fn 33 [.ptr 1 0]]]⟩ [])
theorem Z1a2 (a1 : Int) (b0 : List XObj) (b1 : XObj)  : Tr Tryz.prog 2 (Z3a Tryz.f20) (Z1f Tryz.f20 [.agg [.vec 0], .int .u8 a1, .fn 33 [.ptr 1 0]] [.vec true ⟨.obj, b0⟩, .cells 32 (oc b1)]) (Z4a Tryz.prog Tryz.f20 (.fn 41 [.ptr 2 0, .ptr 3 0, .ptr 4 0]) [.vec true ⟨.obj, b0⟩, .cells 32 (oc b1), .cells 67 [.vec 0], .cells 27 [.int .u8 (Z23 a1 b0 b1)], .cells 73 [.fn 33 [.ptr 1 0]]]) := by
 refine Z20 (kok _ _ _ _ _ _) (E := Z1f7) (L := Z2a) 60 9999 Z14.none (Z119 a1 b0 b1) (by kernel_rfl) (by kernel_rfl) (by kernel_rfl) ?_
 unfold Z119
 exact ⟨trivial, .inl (by kernel_rfl), by kernel_rfl⟩
noncomputable def Z162 : Fact Tryz.prog := Z50 20 Tryz.f20 (by kernel_rfl) rfl (by kernel_rfl) [.agg [.vec 0], .c (.int .u8), .fn 33 [.ptr 1 0]] [.vec true .obj, .st 32 .obj] false (fun t u => .fn 41 [.ptr 2 0, .ptr 3 0, .ptr 4 0]) (fun t u => [.vec true ⟨.obj, u.1⟩, .cells 32 (oc u.2.1), .cells 67 [.vec 0], .cells 27 [.int .u8 (Z23 t.2.1 u.1 u.2.1)], .cells 73 [.fn 33 [.ptr 1 0]]]) (fun t u => [])
 (nofun) (fun t u => by kernel_rfl) (fun t u => by kernel_rfl) (fun t u h => Z1a2 t.2.1 u.1 u.2.1 )
noncomputable def Z17a : Fact Tryz.prog := Z9f Z162 [.agg [.vec 0], .c (.int .u8), .fn 33 [.ptr 1 0]] [.vec true .obj, .st 32 .obj] (fun t u => .fn 41 [.ptr 2 0, .ptr 3 0, .ptr 4 0]) (fun t u => [.vec true ⟨.obj, u.1⟩, .cells 32 (oc u.2.1), .cells 67 [.vec 0], .cells 27 [.int .u8 (Z23 t.2.1 u.1 u.2.1)], .cells 73 [.fn 33 [.ptr 1 0]]]) (fun t u => []) rfl [0, 1] (by
 intro t u k hk
 simp only [List.mem_cons, List.not_mem_nil, or_false] at hk
 rcases hk with rfl | rfl
 all_goals exact ⟨by decide, rfl⟩)
noncomputable def E_bind_Volume_1 : Env := Z57 (P := Tryz.prog) [Zf9] [] [] ckf
def Zd6 (a0 : XObj) (b0 : XObj) : Bool :=
 decide ((Z5d a0) = b0.claim)
def Z1da (a0 : XObj) (b0 : XObj) : RT :=
 (.need [a0.Fine]
   (.leaf .ret ⟨Z9 9 [(3, .bool (decide ((Z5d a0) = b0.claim)))], [.cells 32 (oc b0)]⟩ []))
theorem Z248 (a0 : XObj) (b0 : XObj) (hp0 : a0.Fine) : Tr Tryz.prog 1 (Z3a Tryz.f33) (Z1f Tryz.f33 [.agg (oc a0), .ptr 0 0] [.cells 32 (oc b0)]) (Z4a Tryz.prog Tryz.f33 (.bool (Zd6 a0 b0)) [.cells 32 (oc b0)]) := by
 refine Z20 (kok _ _ _ _ _ _) (E := E_bind_Volume_1) (L := Z2a) 60 9999 Z14.none (Z1da a0 b0) (by kernel_rfl) (by kernel_rfl) (by kernel_rfl) ?_
 unfold Z1da
 refine ⟨Z6 (by first | assumption | exact hp0) (Z10), ?_⟩
 exact ⟨trivial, .inl (by kernel_rfl), by kernel_rfl⟩
noncomputable def Z21a : Fact Tryz.prog := Z50 33 Tryz.f33 (by kernel_rfl) rfl (by kernel_rfl) [.st .obj, .c (.ptr 0 0)] [.st 32 .obj] true (fun t u => .bool (Zd6 t.1 u.1)) (fun t u => HPL.enc _ u) (fun t u => [t.1.Fine])
 (fun _ _ _ => rfl) (fun t u => by kernel_rfl) (fun t u => by kernel_rfl) (fun t u h => Z248 t.1 u.1 (h _ List.mem_cons_self))
noncomputable def Zdf : Env := Z57 (P := Tryz.prog) [Z21a] [] [] ckf false [Z7d]
def Z41 (a1 : Int) (b0 : List XObj) (b1 : XObj) : List XObj → Bool
 | [] => false
 | o :: r => cond (cond ((o.kind) == (Z23 a1 b0 b1)) (Zd6 o b1) false)
  true
  (Z41 a1 b0 b1 r)
def Z80 (a1 : Int) (b0 : List XObj) (b1 : XObj) (i : Nat) : St :=
 ⟨Z9 30 [(0, .yld 6), (2, .ptr 4 0), (3, .ptr 5 0), (8, .vec 0), (9, .int .i64 (b0.length : Int)), (10, .int .i64 (i : Int))], [.vec true ⟨.obj, b0⟩, .cells 32 (oc b1), .cells 4 [.bool false], .cells 67 [.vec 0], .cells 27 [.int .u8 (Z23 a1 b0 b1)], .cells 73 [.fn 33 [.ptr 1 0]], .loop 1 (Z9 12 [(6, .ptr 2 0)]) none]⟩
def Za9 (a1 : Int) (b0 : List XObj) (b1 : XObj) (i : Nat) : RT :=
 (.ask (decide ((i : Int) < (b0.length : Int)))
   (.need [0 ≤ (i : Int) ∧ (i : Int) < (b0.length : Int)]
     (.need [((((b0.getD i default).kind) == (Z23 a1 b0 b1)) = true) → ((b0.getD i default).Fine)]
       (.ask (cond (((b0.getD i default).kind) == (Z23 a1 b0 b1)) (Zd6 (b0.getD i default) b1) false)
         (.ask true
           (.ask true
             (.leaf .ret ⟨Z9 30 [], [.vec true ⟨.obj, b0⟩, .cells 32 (oc b1), .cells 4 [.bool true], .cells 67 [.vec 0], .cells 27 [.int .u8 (Z23 a1 b0 b1)], .cells 73 [.fn 33 [.ptr 1 0]], .loop 1 (Z9 12 [(6, .ptr 2 0)]) (some (.ret))]⟩ [])
             .fail)
           .fail)
         (.ask false
           .fail
           (.leaf .normal ⟨Z9 30 [(0, .yld 6), (2, .ptr 4 0), (3, .ptr 5 0), (8, .vec 0), (9, .int .i64 (b0.length : Int)), (10, .int .i64 (IntKind.i64.wrap ((i : Int) + (1 : Int))))], [.vec true ⟨.obj, b0⟩, .cells 32 (oc b1), .cells 4 [.bool false], .cells 67 [.vec 0], .cells 27 [.int .u8 (Z23 a1 b0 b1)], .cells 73 [.fn 33 [.ptr 1 0]], .loop 1 (Z9 12 [(6, .ptr 2 0)]) none]⟩ [])))))
   (.leaf (.exit 0) ⟨Z9 30 [], [.vec true ⟨.obj, b0⟩, .cells 32 (oc b1), .cells 4 [.bool false], .cells 67 [.vec 0], .cells 27 [.int .u8 (Z23 a1 b0 b1)], .cells 73 [.fn 33 [.ptr 1 0]], .loop 1 (Z9 12 [(6, .ptr 2 0)]) none]⟩ []))
def Z54 (a1 : Int) (b0 : List XObj) (b1 : XObj) (i : Nat) : Tree :=
 .ask (Z41 a1 b0 b1 (b0.drop i)) (.leaf .ret ⟨Z9 30 [], [.vec true ⟨.obj, b0⟩, .cells 32 (oc b1), .cells 4 [.bool true], .cells 67 [.vec 0], .cells 27 [.int .u8 (Z23 a1 b0 b1)], .cells 73 [.fn 33 [.ptr 1 0]], .loop 1 (Z9 12 [(6, .ptr 2 0)]) (some (.ret))]⟩) (.leaf (.exit 0) ⟨Z9 30 [], [.vec true ⟨.obj, b0⟩, .cells 32 (oc b1), .cells 4 [.bool false], .cells 67 [.vec 0], .cells 27 [.int .u8 (Z23 a1 b0 b1)], .cells 73 [.fn 33 [.ptr 1 0]], .loop 1 (Z9 12 [(6, .ptr 2 0)]) none]⟩)
theorem Z12e (a1 : Int) (b0 : List XObj) (b1 : XObj) (hp0 : b0.length < 4611686018427387904) (hp1 : ∀ o ∈ b0, o.Fine) (hlen : b0.length < 4611686018427387904) (z : { z : Nat // z ≤ b0.length }) (Q : Exit → St → Prop) (h : (Z54 a1 b0 b1 z.1).All Q) : Tr Tryz.prog 7 (.loop (Z49 Tryz.f41 0)) (Z80 a1 b0 b1 z.1) Q := by
 refine Z98 (kok _ _ _ _ _ _) (E := Zdf) (ι := { z : Nat // z ≤ b0.length }) 60 0 (fun _ => Z2a) (fun z => Z80 a1 b0 b1 z.1) (fun z => Z54 a1 b0 b1 z.1) (fun z => Za9 a1 b0 b1 z.1) (fun z => b0.length - z.1) (fun _ => Z14.none) (fun z => by obtain ⟨i, hi⟩ := z; kernel_rfl) (fun z => by obtain ⟨i, hi⟩ := z; kernel_rfl) (fun z => by obtain ⟨i, hi⟩ := z; kernel_rfl) ?_ z Q h
 rintro ⟨i, hi⟩ Q hT
 replace hT : (Z54 a1 b0 b1 i).All Q := hT
 replace hi : i ≤ b0.length := hi
 show (Za9 a1 b0 b1 i).All _
 unfold Za9
 refine ⟨fun h0 => ?_, fun h0 => ?_⟩
 · have hlt : i < b0.length := by simpa using h0
   have hd := Z8e hlt
   have hw := Z85 (i := i) (by omega)
   refine ⟨Z6 (by first | assumption | omega | (intro; omega) | (simp only [decide_eq_true_eq, decide_eq_false_iff_not, Bool.cond_false_right, Bool.cond_true_right, Bool.cond_true_left, Bool.cond_false_left, Bool.and_eq_true, Bool.or_eq_true, Bool.not_eq_true', Z35, maxLen, List.length_cons, List.length_nil, List.length_append, Z28] at *; omega) | (intro; simp only [decide_eq_true_eq, decide_eq_false_iff_not, Bool.cond_false_right, Bool.cond_true_right, Bool.cond_true_left, Bool.cond_false_left, Bool.and_eq_true, Bool.or_eq_true, Bool.not_eq_true', Z35, maxLen, List.length_cons, List.length_nil, List.length_append, Z28] at *; omega)) (Z10), ?_⟩
   refine ⟨Z6 (by (try refine fun (_ : _ = _) => ?_); first | assumption | exact Z43 _ _ _ (by first | assumption | exact Z4c _ (by first | assumption | exact w12_few_fine (by assumption)) | exact r12_Uniq_fine _ (by first | assumption | exact w12_few_fine (by assumption)) | exact w12_few_fine (by assumption)) | exact r12_Get_fine _ _ _ (by first | assumption | exact Z4c _ (by first | assumption | exact w12_few_fine (by assumption)) | exact r12_Uniq_fine _ (by first | assumption | exact w12_few_fine (by assumption)) | exact w12_few_fine (by assumption)) | exact Z5b | exact hp1 _ (Z33 (by assumption)) | exact r12_Uniq_fine _ (by assumption) _ (Z33 (by assumption)) | exact Z4c _ (by assumption) _ (Z33 (by assumption)) | exact w12_few_fine (by assumption) _ (Z33 (by assumption)) | exact hp1 | exact hp0 | (refine ⟨?_, ?_, ?_, ?_, ?_, ?_, ?_, ?_, ?_⟩ <;> first | assumption | decide | (simp only [Z4e]; decide))) (Z10), ?_⟩
   refine ⟨fun h1 => ?_, fun h1 => ?_⟩
   · refine ⟨fun h2 => ?_, fun h2 => ?_⟩
     · refine ⟨fun h3 => ?_, fun h3 => ?_⟩
       · have hF : Z41 a1 b0 b1 (b0.drop i) = true := by rw [hd]; first | exact (Zb h1 (Zb h2 (Zb h3 rfl))) | simp only [Z41, h0, h1, h2, h3, cond_true, cond_false]
         unfold Z54 at hT
         rw [hF] at hT
         exact hT.1 rfl
       · exact absurd h3 (by simp)
     · exact absurd h2 (by simp)
   · refine ⟨fun h2 => ?_, fun h2 => ?_⟩
     · exact absurd h2 (by simp)
     · have hF : Z41 a1 b0 b1 (b0.drop i) = Z41 a1 b0 b1 (b0.drop (i + 1)) := by rw [hd]; first | exact (Z5 h1 (Z5 h2 rfl)) | simp only [Z41, h0, h1, h2, cond_true, cond_false]
       refine ⟨⟨(i + 1), by show (i + 1) ≤ b0.length; omega⟩, by show b0.length - (i + 1) < b0.length - i; omega, ?_, ?_⟩
       · show _ = Z80 a1 b0 b1 (i + 1)
         unfold Z80
         simp only [hw]
       · show (Z54 a1 b0 b1 (i + 1)).All Q
         unfold Z54 at hT ⊢
         rw [hF] at hT
         exact hT
 · have hge : ¬ i < b0.length := by simpa using h0
   have hd : b0.drop i = [] := List.drop_eq_nil_of_le (by omega)
   have hF : Z41 a1 b0 b1 (b0.drop i) = false := by rw [hd]; first | exact rfl | simp only [Z41, h0, cond_true, cond_false]
   unfold Z54 at hT
   rw [hF] at hT
   exact hT.2 rfl
def Zeb (a1 : Int) (b0 : List XObj) (b1 : XObj) : St :=
 ⟨Z9 12 [(6, .ptr 2 0), (10, .fn 41 [.ptr 3 0, .ptr 4 0, .ptr 5 0])], [.vec true ⟨.obj, b0⟩, .cells 32 (oc b1), .cells 4 [.bool false], .cells 67 [.vec 0], .cells 27 [.int .u8 (Z23 a1 b0 b1)], .cells 73 [.fn 33 [.ptr 1 0]]]⟩
def Z65 (a1 : Int) (b0 : List XObj) (b1 : XObj) : Bool :=
 cond (Z41 a1 b0 b1 b0)
  true
  false
def Zec (a1 : Int) (b0 : List XObj) (b1 : XObj) : RT :=
 (.ask (Z41 a1 b0 b1 b0)
   (.leaf .ret ⟨Z9 30 [], [.vec true ⟨.obj, b0⟩, .cells 32 (oc b1), .cells 4 [.bool true], .cells 67 [.vec 0], .cells 27 [.int .u8 (Z23 a1 b0 b1)], .cells 73 [.fn 33 [.ptr 1 0]], .loop 1 (Z9 12 [(6, .ptr 2 0)]) (some (.ret))]⟩ [])
   (.leaf .normal ⟨Z9 30 [], [.vec true ⟨.obj, b0⟩, .cells 32 (oc b1), .cells 4 [.bool false], .cells 67 [.vec 0], .cells 27 [.int .u8 (Z23 a1 b0 b1)], .cells 73 [.fn 33 [.ptr 1 0]], .loop 1 (Z9 12 [(6, .ptr 2 0)]) none]⟩ []))
def Z96 (a1 : Int) (b0 : List XObj) (b1 : XObj) : Tree :=
 .ask (Z65 a1 b0 b1) (.leaf .ret ⟨Z9 12 [(6, .ptr 2 0), (10, .fn 41 [.ptr 3 0, .ptr 4 0, .ptr 5 0])], [.vec true ⟨.obj, b0⟩, .cells 32 (oc b1), .cells 4 [.bool true], .cells 67 [.vec 0], .cells 27 [.int .u8 (Z23 a1 b0 b1)], .cells 73 [.fn 33 [.ptr 1 0]], .dead]⟩) (.leaf .normal ⟨Z9 12 [(6, .ptr 2 0), (10, .fn 41 [.ptr 3 0, .ptr 4 0, .ptr 5 0])], [.vec true ⟨.obj, b0⟩, .cells 32 (oc b1), .cells 4 [.bool false], .cells 67 [.vec 0], .cells 27 [.int .u8 (Z23 a1 b0 b1)], .cells 73 [.fn 33 [.ptr 1 0]], .dead]⟩)
theorem Z180 (a1 : Int) (b0 : List XObj) (b1 : XObj) (hp0 : b0.length < 4611686018427387904) (hp1 : ∀ o ∈ b0, o.Fine) (Q : Exit → St → Prop) (hT : (Z96 a1 b0 b1).All Q) : Tr Tryz.prog 2 (Z49 Tryz.f16 0) (Zeb a1 b0 b1) Q := by
 have hc : Z49 Tryz.f16 0 = .rangeFunc (.tmp 10) (Globs.site 1).1 (Globs.site 1).2.1 (Globs.site 1).2.2 := by kernel_rfl
 rw [hc]
 refine Zc6 (site := 1) (gf := 41) (fn := Tryz.f41) (c := Z3a Tryz.f41) (cap := [.ptr 3 0, .ptr 4 0, .ptr 5 0]) 6 [6] (Z9 12 [(6, .ptr 2 0)]) [.yld 6, .ptr 3 0, .ptr 4 0, .ptr 5 0] [.vec true ⟨.obj, b0⟩, .cells 32 (oc b1), .cells 4 [.bool false], .cells 67 [.vec 0], .cells 27 [.int .u8 (Z23 a1 b0 b1)], .cells 73 [.fn 33 [.ptr 1 0]], .loop 1 (Z9 12 [(6, .ptr 2 0)]) none] rfl (by kernel_rfl) (by kernel_rfl) rfl (by kernel_rfl) (by kernel_rfl) (by kernel_rfl) (by kernel_rfl) (by kernel_rfl) (by kernel_rfl) (by kernel_rfl) (by kernel_rfl) ?_
 refine Z20 (kok _ _ _ _ _ _) (E := Zdf) (L := (Z61 [(0, Z80 a1 b0 b1 0, [], Z54 a1 b0 b1 0)])) 60 9999 (Z14.one (g := Z49 Tryz.f41 0) (b := 0) (by kernel_rfl) (by kernel_rfl) (by kernel_rfl) (by kernel_rfl) (fun Q h => Z12e a1 b0 b1 hp0 hp1 (by first | assumption | omega | exact Z6d _ (by first | assumption | omega | exact Nat.le_trans (w12_few_len _) (by decide)) | exact r12_Uniq_short _ (by first | assumption | omega | exact Nat.le_trans (w12_few_len _) (by decide)) | exact Nat.lt_of_le_of_lt (w12_few_len _) (by decide) | decide | (simp only [List.length_append, List.length_cons, List.length_nil]; have := w12_few_len a0; omega)) ⟨0, by first | exact Nat.zero_le _ | (show 0 ≤ b0.length; omega) | (show 0 ≤ b0.length; exact ⟨Nat.zero_le _, by assumption⟩) | (show 0 ≤ b0.length; simp)⟩ Q h)) (Zec a1 b0 b1) (by kernel_rfl) (by kernel_rfl) (by kernel_rfl) ?_
 unfold Zec
 refine ⟨fun h0 => ?_, fun h0 => ?_⟩
 · have hF : Z65 a1 b0 b1 = true := by first | exact (Zb h0 rfl) | simp only [Z65, h0, cond_true, cond_false]
   unfold Z96 at hT
   rw [hF] at hT
   exact ⟨⟨trivial, .tup [], by kernel_rfl⟩, (some (.ret)), [.vec true ⟨.obj, b0⟩, .cells 32 (oc b1), .cells 4 [.bool true], .cells 67 [.vec 0], .cells 27 [.int .u8 (Z23 a1 b0 b1)], .cells 73 [.fn 33 [.ptr 1 0]], .dead], by kernel_rfl, rfl, by kernel_rfl, by kernel_rfl, by kernel_rfl, by kernel_rfl, hT.1 rfl⟩
 · have hF : Z65 a1 b0 b1 = false := by first | exact (Z5 h0 rfl) | simp only [Z65, h0, cond_true, cond_false]
   unfold Z96 at hT
   rw [hF] at hT
   exact ⟨⟨trivial, .tup [], by kernel_rfl⟩, none, [.vec true ⟨.obj, b0⟩, .cells 32 (oc b1), .cells 4 [.bool false], .cells 67 [.vec 0], .cells 27 [.int .u8 (Z23 a1 b0 b1)], .cells 73 [.fn 33 [.ptr 1 0]], .dead], by kernel_rfl, rfl, by kernel_rfl, by kernel_rfl, by kernel_rfl, by kernel_rfl, hT.2 rfl⟩
noncomputable def Z230 : Env := Z57 (P := Tryz.prog) [Z17a] [] [] ckf
def Z6c (a1 : Int) (b0 : List XObj) (b1 : XObj) : Bool :=
 cond (Z65 a1 b0 b1)
  true
  false
def Z14b (a1 : Int) (b0 : List XObj) (b1 : XObj) : RT :=
 (.ask (Z65 a1 b0 b1)
   (.leaf .ret ⟨Z9 12 [(6, .ptr 2 0)], [.vec true ⟨.obj, b0⟩, .cells 32 (oc b1), .cells 4 [.bool true]]⟩ [])
   (.leaf .ret ⟨Z9 12 [(6, .ptr 2 0)], [.vec true ⟨.obj, b0⟩, .cells 32 (oc b1), .cells 4 [.bool false]]⟩ []))
theorem Z1cd (a1 : Int) (b0 : List XObj) (b1 : XObj) (hp0 : b0.length < 4611686018427387904) (hp1 : ∀ o ∈ b0, o.Fine) : Tr Tryz.prog 2 (Z3a Tryz.f16) (Z1f Tryz.f16 [.agg [.vec 0], .int .u8 a1, .fn 33 [.ptr 1 0]] [.vec true ⟨.obj, b0⟩, .cells 32 (oc b1)]) (Z4a Tryz.prog Tryz.f16 (.bool (Z6c a1 b0 b1)) [.vec true ⟨.obj, b0⟩, .cells 32 (oc b1)]) := by
 refine Z20 (kok _ _ _ _ _ _) (E := Z230) (L := (Z61 [(0, Zeb a1 b0 b1, [0, 1, 3, 4, 5, 6], Z96 a1 b0 b1)])) 60 9999 (Z14.oneR (g := Z49 Tryz.f16 0) (b := 0) (by kernel_rfl) (by kernel_rfl) (by kernel_rfl) (by kernel_rfl) (fun Q h => Z180 a1 b0 b1 hp0 hp1 Q h)) (Z14b a1 b0 b1) (by kernel_rfl) (by kernel_rfl) (by kernel_rfl) ?_
 unfold Z14b
 refine ⟨fun h0 => ?_, fun h0 => ?_⟩
 · have hF : Z6c a1 b0 b1 = true := by first | exact (Zb h0 rfl) | simp only [Z6c, h0, cond_true, cond_false]
   exact ⟨trivial, .inl (by first | (rw [hF]; kernel_rfl) | kernel_rfl), by first | (rw [hF]; kernel_rfl) | kernel_rfl⟩
 · have hF : Z6c a1 b0 b1 = false := by first | exact (Z5 h0 rfl) | simp only [Z6c, h0, cond_true, cond_false]
   exact ⟨trivial, .inl (by first | (rw [hF]; kernel_rfl) | kernel_rfl), by first | (rw [hF]; kernel_rfl) | kernel_rfl⟩
noncomputable def Z1ad : Fact Tryz.prog := Z50 16 Tryz.f16 (by kernel_rfl) rfl (by kernel_rfl) [.agg [.vec 0], .c (.int .u8), .fn 33 [.ptr 1 0]] [.vec true .obj, .st 32 .obj] true (fun t u => .bool (Z6c t.2.1 u.1 u.2.1)) (fun t u => HPL.enc _ u) (fun t u => [u.1.length < 4611686018427387904, ∀ o ∈ u.1, o.Fine])
 (fun _ _ _ => rfl) (fun t u => by kernel_rfl) (fun t u => by kernel_rfl) (fun t u h => Z1cd t.2.1 u.1 u.2.1 (h _ List.mem_cons_self) (h _ (List.mem_cons_of_mem _ List.mem_cons_self)))
noncomputable def Z1f6 : Env := Z57 (P := Tryz.prog) [] [] [] ckf
def Z25 (a1 : Int) (b0 : List XObj) (b1 : ByteArray) : Int :=
 a1
def Z118 (a1 : Int) (b0 : List XObj) (b1 : ByteArray) : RT :=
 (.leaf .ret ⟨Z9 8 [(6, .fn 41 [.ptr 2 0, .ptr 3 0, .ptr 4 0])], [.vec true ⟨.obj, b0⟩, .cells 9 [.str b1], .cells 67 [.vec 0], .cells 27 [.int .u8 a1], .cells 73 [.fn 34 [.ptr 1 0]]]⟩ [])
theorem Z1a1 (a1 : Int) (b0 : List XObj) (b1 : ByteArray)  : Tr Tryz.prog 2 (Z3a Tryz.f20) (Z1f Tryz.f20 [.agg [.vec 0], .int .u8 a1, .fn 34 [.ptr 1 0]] [.vec true ⟨.obj, b0⟩, .cells 9 [.str b1]]) (Z4a Tryz.prog Tryz.f20 (.fn 41 [.ptr 2 0, .ptr 3 0, .ptr 4 0]) [.vec true ⟨.obj, b0⟩, .cells 9 [.str b1], .cells 67 [.vec 0], .cells 27 [.int .u8 (Z25 a1 b0 b1)], .cells 73 [.fn 34 [.ptr 1 0]]]) := by
 refine Z20 (kok _ _ _ _ _ _) (E := Z1f6) (L := Z2a) 60 9999 Z14.none (Z118 a1 b0 b1) (by kernel_rfl) (by kernel_rfl) (by kernel_rfl) ?_
 unfold Z118
 exact ⟨trivial, .inl (by kernel_rfl), by kernel_rfl⟩
noncomputable def Z161 : Fact Tryz.prog := Z50 20 Tryz.f20 (by kernel_rfl) rfl (by kernel_rfl) [.agg [.vec 0], .c (.int .u8), .fn 34 [.ptr 1 0]] [.vec true .obj, .cells 9 [.str]] false (fun t u => .fn 41 [.ptr 2 0, .ptr 3 0, .ptr 4 0]) (fun t u => [.vec true ⟨.obj, u.1⟩, .cells 9 [.str u.2.1.1], .cells 67 [.vec 0], .cells 27 [.int .u8 (Z25 t.2.1 u.1 u.2.1.1)], .cells 73 [.fn 34 [.ptr 1 0]]]) (fun t u => [])
 (nofun) (fun t u => by kernel_rfl) (fun t u => by kernel_rfl) (fun t u h => Z1a1 t.2.1 u.1 u.2.1.1 )
noncomputable def Z179 : Fact Tryz.prog := Z9f Z161 [.agg [.vec 0], .c (.int .u8), .fn 34 [.ptr 1 0]] [.vec true .obj, .cells 9 [.str]] (fun t u => .fn 41 [.ptr 2 0, .ptr 3 0, .ptr 4 0]) (fun t u => [.vec true ⟨.obj, u.1⟩, .cells 9 [.str u.2.1.1], .cells 67 [.vec 0], .cells 27 [.int .u8 (Z25 t.2.1 u.1 u.2.1.1)], .cells 73 [.fn 34 [.ptr 1 0]]]) (fun t u => []) rfl [0, 1] (by
 intro t u k hk
 simp only [List.mem_cons, List.not_mem_nil, or_false] at hk
 rcases hk with rfl | rfl
 all_goals exact ⟨by decide, rfl⟩)
noncomputable def E_bind_Volume_2 : Env := Z57 (P := Tryz.prog) [] [] [] ckf
def Zd5 (a0 : XObj) (b0 : ByteArray) : Bool :=
 decide (a0.volume = b0)
def Z1d9 (a0 : XObj) (b0 : ByteArray) : RT :=
 (.leaf .ret ⟨Z9 8 [(3, .bool (decide (a0.volume = b0)))], [.cells 9 [.str b0]]⟩ [])
theorem Z247 (a0 : XObj) (b0 : ByteArray)  : Tr Tryz.prog 1 (Z3a Tryz.f34) (Z1f Tryz.f34 [.agg (oc a0), .ptr 0 0] [.cells 9 [.str b0]]) (Z4a Tryz.prog Tryz.f34 (.bool (Zd5 a0 b0)) [.cells 9 [.str b0]]) := by
 refine Z20 (kok _ _ _ _ _ _) (E := E_bind_Volume_2) (L := Z2a) 60 9999 Z14.none (Z1d9 a0 b0) (by kernel_rfl) (by kernel_rfl) (by kernel_rfl) ?_
 unfold Z1d9
 exact ⟨trivial, .inl (by kernel_rfl), by kernel_rfl⟩
noncomputable def Z219 : Fact Tryz.prog := Z50 34 Tryz.f34 (by kernel_rfl) rfl (by kernel_rfl) [.st .obj, .c (.ptr 0 0)] [.cells 9 [.str]] true (fun t u => .bool (Zd5 t.1 u.1.1)) (fun t u => HPL.enc _ u) (fun t u => [])
 (fun _ _ _ => rfl) (fun t u => by kernel_rfl) (fun t u => by kernel_rfl) (fun t u h => Z247 t.1 u.1.1 )
noncomputable def Zde : Env := Z57 (P := Tryz.prog) [Z219] [] [] ckf false [Z7d]
def Z40 (a1 : Int) (b0 : List XObj) (b1 : ByteArray) : List XObj → Bool
 | [] => false
 | o :: r => cond (cond ((o.kind) == (Z25 a1 b0 b1)) (Zd5 o b1) false)
  true
  (Z40 a1 b0 b1 r)
def Z7f (a1 : Int) (b0 : List XObj) (b1 : ByteArray) (i : Nat) : St :=
 ⟨Z9 30 [(0, .yld 6), (2, .ptr 4 0), (3, .ptr 5 0), (8, .vec 0), (9, .int .i64 (b0.length : Int)), (10, .int .i64 (i : Int))], [.vec true ⟨.obj, b0⟩, .cells 9 [.str b1], .cells 4 [.bool false], .cells 67 [.vec 0], .cells 27 [.int .u8 (Z25 a1 b0 b1)], .cells 73 [.fn 34 [.ptr 1 0]], .loop 1 (Z9 12 [(6, .ptr 2 0)]) none]⟩
def Za8 (a1 : Int) (b0 : List XObj) (b1 : ByteArray) (i : Nat) : RT :=
 (.ask (decide ((i : Int) < (b0.length : Int)))
   (.need [0 ≤ (i : Int) ∧ (i : Int) < (b0.length : Int)]
     (.ask (cond (((b0.getD i default).kind) == (Z25 a1 b0 b1)) (Zd5 (b0.getD i default) b1) false)
       (.ask true
         (.ask true
           (.leaf .ret ⟨Z9 30 [], [.vec true ⟨.obj, b0⟩, .cells 9 [.str b1], .cells 4 [.bool true], .cells 67 [.vec 0], .cells 27 [.int .u8 (Z25 a1 b0 b1)], .cells 73 [.fn 34 [.ptr 1 0]], .loop 1 (Z9 12 [(6, .ptr 2 0)]) (some (.ret))]⟩ [])
           .fail)
         .fail)
       (.ask false
         .fail
         (.leaf .normal ⟨Z9 30 [(0, .yld 6), (2, .ptr 4 0), (3, .ptr 5 0), (8, .vec 0), (9, .int .i64 (b0.length : Int)), (10, .int .i64 (IntKind.i64.wrap ((i : Int) + (1 : Int))))], [.vec true ⟨.obj, b0⟩, .cells 9 [.str b1], .cells 4 [.bool false], .cells 67 [.vec 0], .cells 27 [.int .u8 (Z25 a1 b0 b1)], .cells 73 [.fn 34 [.ptr 1 0]], .loop 1 (Z9 12 [(6, .ptr 2 0)]) none]⟩ []))))
   (.leaf (.exit 0) ⟨Z9 30 [], [.vec true ⟨.obj, b0⟩, .cells 9 [.str b1], .cells 4 [.bool false], .cells 67 [.vec 0], .cells 27 [.int .u8 (Z25 a1 b0 b1)], .cells 73 [.fn 34 [.ptr 1 0]], .loop 1 (Z9 12 [(6, .ptr 2 0)]) none]⟩ []))
def Z53 (a1 : Int) (b0 : List XObj) (b1 : ByteArray) (i : Nat) : Tree :=
 .ask (Z40 a1 b0 b1 (b0.drop i)) (.leaf .ret ⟨Z9 30 [], [.vec true ⟨.obj, b0⟩, .cells 9 [.str b1], .cells 4 [.bool true], .cells 67 [.vec 0], .cells 27 [.int .u8 (Z25 a1 b0 b1)], .cells 73 [.fn 34 [.ptr 1 0]], .loop 1 (Z9 12 [(6, .ptr 2 0)]) (some (.ret))]⟩) (.leaf (.exit 0) ⟨Z9 30 [], [.vec true ⟨.obj, b0⟩, .cells 9 [.str b1], .cells 4 [.bool false], .cells 67 [.vec 0], .cells 27 [.int .u8 (Z25 a1 b0 b1)], .cells 73 [.fn 34 [.ptr 1 0]], .loop 1 (Z9 12 [(6, .ptr 2 0)]) none]⟩)
theorem Z12d (a1 : Int) (b0 : List XObj) (b1 : ByteArray) (hp0 : b0.length < 4611686018427387904) (hp1 : ∀ o ∈ b0, o.Fine) (hlen : b0.length < 4611686018427387904) (z : { z : Nat // z ≤ b0.length }) (Q : Exit → St → Prop) (h : (Z53 a1 b0 b1 z.1).All Q) : Tr Tryz.prog 7 (.loop (Z49 Tryz.f41 0)) (Z7f a1 b0 b1 z.1) Q := by
 refine Z98 (kok _ _ _ _ _ _) (E := Zde) (ι := { z : Nat // z ≤ b0.length }) 60 0 (fun _ => Z2a) (fun z => Z7f a1 b0 b1 z.1) (fun z => Z53 a1 b0 b1 z.1) (fun z => Za8 a1 b0 b1 z.1) (fun z => b0.length - z.1) (fun _ => Z14.none) (fun z => by obtain ⟨i, hi⟩ := z; kernel_rfl) (fun z => by obtain ⟨i, hi⟩ := z; kernel_rfl) (fun z => by obtain ⟨i, hi⟩ := z; kernel_rfl) ?_ z Q h
 rintro ⟨i, hi⟩ Q hT
 replace hT : (Z53 a1 b0 b1 i).All Q := hT
 replace hi : i ≤ b0.length := hi
 show (Za8 a1 b0 b1 i).All _
 unfold Za8
 refine ⟨fun h0 => ?_, fun h0 => ?_⟩
 · have hlt : i < b0.length := by simpa using h0
   have hd := Z8e hlt
   have hw := Z85 (i := i) (by omega)
   refine ⟨Z6 (by first | assumption | omega | (intro; omega) | (simp only [decide_eq_true_eq, decide_eq_false_iff_not, Bool.cond_false_right, Bool.cond_true_right, Bool.cond_true_left, Bool.cond_false_left, Bool.and_eq_true, Bool.or_eq_true, Bool.not_eq_true', Z35, maxLen, List.length_cons, List.length_nil, List.length_append, Z28] at *; omega) | (intro; simp only [decide_eq_true_eq, decide_eq_false_iff_not, Bool.cond_false_right, Bool.cond_true_right, Bool.cond_true_left, Bool.cond_false_left, Bool.and_eq_true, Bool.or_eq_true, Bool.not_eq_true', Z35, maxLen, List.length_cons, List.length_nil, List.length_append, Z28] at *; omega)) (Z10), ?_⟩
   refine ⟨fun h1 => ?_, fun h1 => ?_⟩
   · refine ⟨fun h2 => ?_, fun h2 => ?_⟩
     · refine ⟨fun h3 => ?_, fun h3 => ?_⟩
       · have hF : Z40 a1 b0 b1 (b0.drop i) = true := by rw [hd]; first | exact (Zb h1 (Zb h2 (Zb h3 rfl))) | simp only [Z40, h0, h1, h2, h3, cond_true, cond_false]
         unfold Z53 at hT
         rw [hF] at hT
         exact hT.1 rfl
       · exact absurd h3 (by simp)
     · exact absurd h2 (by simp)
   · refine ⟨fun h2 => ?_, fun h2 => ?_⟩
     · exact absurd h2 (by simp)
     · have hF : Z40 a1 b0 b1 (b0.drop i) = Z40 a1 b0 b1 (b0.drop (i + 1)) := by rw [hd]; first | exact (Z5 h1 (Z5 h2 rfl)) | simp only [Z40, h0, h1, h2, cond_true, cond_false]
       refine ⟨⟨(i + 1), by show (i + 1) ≤ b0.length; omega⟩, by show b0.length - (i + 1) < b0.length - i; omega, ?_, ?_⟩
       · show _ = Z7f a1 b0 b1 (i + 1)
         unfold Z7f
         simp only [hw]
       · show (Z53 a1 b0 b1 (i + 1)).All Q
         unfold Z53 at hT ⊢
         rw [hF] at hT
         exact hT
 · have hge : ¬ i < b0.length := by simpa using h0
   have hd : b0.drop i = [] := List.drop_eq_nil_of_le (by omega)
   have hF : Z40 a1 b0 b1 (b0.drop i) = false := by rw [hd]; first | exact rfl | simp only [Z40, h0, cond_true, cond_false]
   unfold Z53 at hT
   rw [hF] at hT
   exact hT.2 rfl
def Ze9 (a1 : Int) (b0 : List XObj) (b1 : ByteArray) : St :=
 ⟨Z9 12 [(6, .ptr 2 0), (10, .fn 41 [.ptr 3 0, .ptr 4 0, .ptr 5 0])], [.vec true ⟨.obj, b0⟩, .cells 9 [.str b1], .cells 4 [.bool false], .cells 67 [.vec 0], .cells 27 [.int .u8 (Z25 a1 b0 b1)], .cells 73 [.fn 34 [.ptr 1 0]]]⟩
def Z64 (a1 : Int) (b0 : List XObj) (b1 : ByteArray) : Bool :=
 cond (Z40 a1 b0 b1 b0)
  true
  false
def Zea (a1 : Int) (b0 : List XObj) (b1 : ByteArray) : RT :=
 (.ask (Z40 a1 b0 b1 b0)
   (.leaf .ret ⟨Z9 30 [], [.vec true ⟨.obj, b0⟩, .cells 9 [.str b1], .cells 4 [.bool true], .cells 67 [.vec 0], .cells 27 [.int .u8 (Z25 a1 b0 b1)], .cells 73 [.fn 34 [.ptr 1 0]], .loop 1 (Z9 12 [(6, .ptr 2 0)]) (some (.ret))]⟩ [])
   (.leaf .normal ⟨Z9 30 [], [.vec true ⟨.obj, b0⟩, .cells 9 [.str b1], .cells 4 [.bool false], .cells 67 [.vec 0], .cells 27 [.int .u8 (Z25 a1 b0 b1)], .cells 73 [.fn 34 [.ptr 1 0]], .loop 1 (Z9 12 [(6, .ptr 2 0)]) none]⟩ []))
def Z95 (a1 : Int) (b0 : List XObj) (b1 : ByteArray) : Tree :=
 .ask (Z64 a1 b0 b1) (.leaf .ret ⟨Z9 12 [(6, .ptr 2 0), (10, .fn 41 [.ptr 3 0, .ptr 4 0, .ptr 5 0])], [.vec true ⟨.obj, b0⟩, .cells 9 [.str b1], .cells 4 [.bool true], .cells 67 [.vec 0], .cells 27 [.int .u8 (Z25 a1 b0 b1)], .cells 73 [.fn 34 [.ptr 1 0]], .dead]⟩) (.leaf .normal ⟨Z9 12 [(6, .ptr 2 0), (10, .fn 41 [.ptr 3 0, .ptr 4 0, .ptr 5 0])], [.vec true ⟨.obj, b0⟩, .cells 9 [.str b1], .cells 4 [.bool false], .cells 67 [.vec 0], .cells 27 [.int .u8 (Z25 a1 b0 b1)], .cells 73 [.fn 34 [.ptr 1 0]], .dead]⟩)
theorem Z17f (a1 : Int) (b0 : List XObj) (b1 : ByteArray) (hp0 : b0.length < 4611686018427387904) (hp1 : ∀ o ∈ b0, o.Fine) (Q : Exit → St → Prop) (hT : (Z95 a1 b0 b1).All Q) : Tr Tryz.prog 2 (Z49 Tryz.f16 0) (Ze9 a1 b0 b1) Q := by
 have hc : Z49 Tryz.f16 0 = .rangeFunc (.tmp 10) (Globs.site 1).1 (Globs.site 1).2.1 (Globs.site 1).2.2 := by kernel_rfl
 rw [hc]
 refine Zc6 (site := 1) (gf := 41) (fn := Tryz.f41) (c := Z3a Tryz.f41) (cap := [.ptr 3 0, .ptr 4 0, .ptr 5 0]) 6 [6] (Z9 12 [(6, .ptr 2 0)]) [.yld 6, .ptr 3 0, .ptr 4 0, .ptr 5 0] [.vec true ⟨.obj, b0⟩, .cells 9 [.str b1], .cells 4 [.bool false], .cells 67 [.vec 0], .cells 27 [.int .u8 (Z25 a1 b0 b1)], .cells 73 [.fn 34 [.ptr 1 0]], .loop 1 (Z9 12 [(6, .ptr 2 0)]) none] rfl (by kernel_rfl) (by kernel_rfl) rfl (by kernel_rfl) (by kernel_rfl) (by kernel_rfl) (by kernel_rfl) (by kernel_rfl) (by kernel_rfl) (by kernel_rfl) (by kernel_rfl) ?_
 refine Z20 (kok _ _ _ _ _ _) (E := Zde) (L := (Z61 [(0, Z7f a1 b0 b1 0, [], Z53 a1 b0 b1 0)])) 60 9999 (Z14.one (g := Z49 Tryz.f41 0) (b := 0) (by kernel_rfl) (by kernel_rfl) (by kernel_rfl) (by kernel_rfl) (fun Q h => Z12d a1 b0 b1 hp0 hp1 (by first | assumption | omega | exact Z6d _ (by first | assumption | omega | exact Nat.le_trans (w12_few_len _) (by decide)) | exact r12_Uniq_short _ (by first | assumption | omega | exact Nat.le_trans (w12_few_len _) (by decide)) | exact Nat.lt_of_le_of_lt (w12_few_len _) (by decide) | decide | (simp only [List.length_append, List.length_cons, List.length_nil]; have := w12_few_len a0; omega)) ⟨0, by first | exact Nat.zero_le _ | (show 0 ≤ b0.length; omega) | (show 0 ≤ b0.length; exact ⟨Nat.zero_le _, by assumption⟩) | (show 0 ≤ b0.length; simp)⟩ Q h)) (Zea a1 b0 b1) (by kernel_rfl) (by kernel_rfl) (by kernel_rfl) ?_
 unfold Zea
 refine ⟨fun h0 => ?_, fun h0 => ?_⟩
 · have hF : Z64 a1 b0 b1 = true := by first | exact (Zb h0 rfl) | simp only [Z64, h0, cond_true, cond_false]
   unfold Z95 at hT
   rw [hF] at hT
   exact ⟨⟨trivial, .tup [], by kernel_rfl⟩, (some (.ret)), [.vec true ⟨.obj, b0⟩, .cells 9 [.str b1], .cells 4 [.bool true], .cells 67 [.vec 0], .cells 27 [.int .u8 (Z25 a1 b0 b1)], .cells 73 [.fn 34 [.ptr 1 0]], .dead], by kernel_rfl, rfl, by kernel_rfl, by kernel_rfl, by kernel_rfl, by kernel_rfl, hT.1 rfl⟩
 · have hF : Z64 a1 b0 b1 = false := by first | exact (Z5 h0 rfl) | simp only [Z64, h0, cond_true, cond_false]
   unfold Z95 at hT
   rw [hF] at hT
   exact ⟨⟨trivial, .tup [], by kernel_rfl⟩, none, [.vec true ⟨.obj, b0⟩, .cells 9 [.str b1], .cells 4 [.bool false], .cells 67 [.vec 0], .cells 27 [.int .u8 (Z25 a1 b0 b1)], .cells 73 [.fn 34 [.ptr 1 0]], .dead], by kernel_rfl, rfl, by kernel_rfl, by kernel_rfl, by kernel_rfl, by kernel_rfl, hT.2 rfl⟩
noncomputable def Z22f : Env := Z57 (P := Tryz.prog) [Z179] [] [] ckf
def Z59 (a1 : Int) (b0 : List XObj) (b1 : ByteArray) : Bool :=
 cond (Z64 a1 b0 b1)
  true
  false
def Z14a (a1 : Int) (b0 : List XObj) (b1 : ByteArray) : RT :=
 (.ask (Z64 a1 b0 b1)
   (.leaf .ret ⟨Z9 12 [(6, .ptr 2 0)], [.vec true ⟨.obj, b0⟩, .cells 9 [.str b1], .cells 4 [.bool true]]⟩ [])
   (.leaf .ret ⟨Z9 12 [(6, .ptr 2 0)], [.vec true ⟨.obj, b0⟩, .cells 9 [.str b1], .cells 4 [.bool false]]⟩ []))
theorem Z1cc (a1 : Int) (b0 : List XObj) (b1 : ByteArray) (hp0 : b0.length < 4611686018427387904) (hp1 : ∀ o ∈ b0, o.Fine) : Tr Tryz.prog 2 (Z3a Tryz.f16) (Z1f Tryz.f16 [.agg [.vec 0], .int .u8 a1, .fn 34 [.ptr 1 0]] [.vec true ⟨.obj, b0⟩, .cells 9 [.str b1]]) (Z4a Tryz.prog Tryz.f16 (.bool (Z59 a1 b0 b1)) [.vec true ⟨.obj, b0⟩, .cells 9 [.str b1]]) := by
 refine Z20 (kok _ _ _ _ _ _) (E := Z22f) (L := (Z61 [(0, Ze9 a1 b0 b1, [0, 1, 3, 4, 5, 6], Z95 a1 b0 b1)])) 60 9999 (Z14.oneR (g := Z49 Tryz.f16 0) (b := 0) (by kernel_rfl) (by kernel_rfl) (by kernel_rfl) (by kernel_rfl) (fun Q h => Z17f a1 b0 b1 hp0 hp1 Q h)) (Z14a a1 b0 b1) (by kernel_rfl) (by kernel_rfl) (by kernel_rfl) ?_
 unfold Z14a
 refine ⟨fun h0 => ?_, fun h0 => ?_⟩
 · have hF : Z59 a1 b0 b1 = true := by first | exact (Zb h0 rfl) | simp only [Z59, h0, cond_true, cond_false]
   exact ⟨trivial, .inl (by first | (rw [hF]; kernel_rfl) | kernel_rfl), by first | (rw [hF]; kernel_rfl) | kernel_rfl⟩
 · have hF : Z59 a1 b0 b1 = false := by first | exact (Z5 h0 rfl) | simp only [Z59, h0, cond_true, cond_false]
   exact ⟨trivial, .inl (by first | (rw [hF]; kernel_rfl) | kernel_rfl), by first | (rw [hF]; kernel_rfl) | kernel_rfl⟩
noncomputable def Z1ac : Fact Tryz.prog := Z50 16 Tryz.f16 (by kernel_rfl) rfl (by kernel_rfl) [.agg [.vec 0], .c (.int .u8), .fn 34 [.ptr 1 0]] [.vec true .obj, .cells 9 [.str]] true (fun t u => .bool (Z59 t.2.1 u.1 u.2.1.1)) (fun t u => HPL.enc _ u) (fun t u => [u.1.length < 4611686018427387904, ∀ o ∈ u.1, o.Fine])
 (fun _ _ _ => rfl) (fun t u => by kernel_rfl) (fun t u => by kernel_rfl) (fun t u h => Z1cc t.2.1 u.1 u.2.1.1 (h _ List.mem_cons_self) (h _ (List.mem_cons_of_mem _ List.mem_cons_self)))
noncomputable def Z1f5 : Env := Z57 (P := Tryz.prog) [] [] [] ckf
def Z24 (a1 : Int) (b0 : List XObj) (b1 : ByteArray) : Int :=
 a1
def Z117 (a1 : Int) (b0 : List XObj) (b1 : ByteArray) : RT :=
 (.leaf .ret ⟨Z9 8 [(6, .fn 41 [.ptr 2 0, .ptr 3 0, .ptr 4 0])], [.vec true ⟨.obj, b0⟩, .cells 9 [.str b1], .cells 67 [.vec 0], .cells 27 [.int .u8 a1], .cells 73 [.fn 35 [.ptr 1 0]]]⟩ [])
theorem Z1a0 (a1 : Int) (b0 : List XObj) (b1 : ByteArray)  : Tr Tryz.prog 2 (Z3a Tryz.f20) (Z1f Tryz.f20 [.agg [.vec 0], .int .u8 a1, .fn 35 [.ptr 1 0]] [.vec true ⟨.obj, b0⟩, .cells 9 [.str b1]]) (Z4a Tryz.prog Tryz.f20 (.fn 41 [.ptr 2 0, .ptr 3 0, .ptr 4 0]) [.vec true ⟨.obj, b0⟩, .cells 9 [.str b1], .cells 67 [.vec 0], .cells 27 [.int .u8 (Z24 a1 b0 b1)], .cells 73 [.fn 35 [.ptr 1 0]]]) := by
 refine Z20 (kok _ _ _ _ _ _) (E := Z1f5) (L := Z2a) 60 9999 Z14.none (Z117 a1 b0 b1) (by kernel_rfl) (by kernel_rfl) (by kernel_rfl) ?_
 unfold Z117
 exact ⟨trivial, .inl (by kernel_rfl), by kernel_rfl⟩
noncomputable def Z160 : Fact Tryz.prog := Z50 20 Tryz.f20 (by kernel_rfl) rfl (by kernel_rfl) [.agg [.vec 0], .c (.int .u8), .fn 35 [.ptr 1 0]] [.vec true .obj, .cells 9 [.str]] false (fun t u => .fn 41 [.ptr 2 0, .ptr 3 0, .ptr 4 0]) (fun t u => [.vec true ⟨.obj, u.1⟩, .cells 9 [.str u.2.1.1], .cells 67 [.vec 0], .cells 27 [.int .u8 (Z24 t.2.1 u.1 u.2.1.1)], .cells 73 [.fn 35 [.ptr 1 0]]]) (fun t u => [])
 (nofun) (fun t u => by kernel_rfl) (fun t u => by kernel_rfl) (fun t u h => Z1a0 t.2.1 u.1 u.2.1.1 )
noncomputable def Z178 : Fact Tryz.prog := Z9f Z160 [.agg [.vec 0], .c (.int .u8), .fn 35 [.ptr 1 0]] [.vec true .obj, .cells 9 [.str]] (fun t u => .fn 41 [.ptr 2 0, .ptr 3 0, .ptr 4 0]) (fun t u => [.vec true ⟨.obj, u.1⟩, .cells 9 [.str u.2.1.1], .cells 67 [.vec 0], .cells 27 [.int .u8 (Z24 t.2.1 u.1 u.2.1.1)], .cells 73 [.fn 35 [.ptr 1 0]]]) (fun t u => []) rfl [0, 1] (by
 intro t u k hk
 simp only [List.mem_cons, List.not_mem_nil, or_false] at hk
 rcases hk with rfl | rfl
 all_goals exact ⟨by decide, rfl⟩)
noncomputable def E_bind_Volume_3 : Env := Z57 (P := Tryz.prog) [] [] [] ckf
def Zd4 (a0 : XObj) (b0 : ByteArray) : Bool :=
 cond (a0.phase == (10 : Int)) (decide (a0.volume = b0)) false
def Z1d8 (a0 : XObj) (b0 : ByteArray) : RT :=
 (.leaf .ret ⟨Z9 13 [(3, .bool (cond (a0.phase == (10 : Int)) (decide (a0.volume = b0)) false))], [.cells 9 [.str b0]]⟩ [])
theorem Z246 (a0 : XObj) (b0 : ByteArray)  : Tr Tryz.prog 1 (Z3a Tryz.f35) (Z1f Tryz.f35 [.agg (oc a0), .ptr 0 0] [.cells 9 [.str b0]]) (Z4a Tryz.prog Tryz.f35 (.bool (Zd4 a0 b0)) [.cells 9 [.str b0]]) := by
 refine Z20 (kok _ _ _ _ _ _) (E := E_bind_Volume_3) (L := Z2a) 60 9999 Z14.none (Z1d8 a0 b0) (by kernel_rfl) (by kernel_rfl) (by kernel_rfl) ?_
 unfold Z1d8
 exact ⟨trivial, .inl (by kernel_rfl), by kernel_rfl⟩
noncomputable def Z218 : Fact Tryz.prog := Z50 35 Tryz.f35 (by kernel_rfl) rfl (by kernel_rfl) [.st .obj, .c (.ptr 0 0)] [.cells 9 [.str]] true (fun t u => .bool (Zd4 t.1 u.1.1)) (fun t u => HPL.enc _ u) (fun t u => [])
 (fun _ _ _ => rfl) (fun t u => by kernel_rfl) (fun t u => by kernel_rfl) (fun t u h => Z246 t.1 u.1.1 )
noncomputable def Zdd : Env := Z57 (P := Tryz.prog) [Z218] [] [] ckf false [Z7d]
def Z3f (a1 : Int) (b0 : List XObj) (b1 : ByteArray) : List XObj → Bool
 | [] => false
 | o :: r => cond (cond ((o.kind) == (Z24 a1 b0 b1)) (Zd4 o b1) false)
  true
  (Z3f a1 b0 b1 r)
def Z7e (a1 : Int) (b0 : List XObj) (b1 : ByteArray) (i : Nat) : St :=
 ⟨Z9 30 [(0, .yld 6), (2, .ptr 4 0), (3, .ptr 5 0), (8, .vec 0), (9, .int .i64 (b0.length : Int)), (10, .int .i64 (i : Int))], [.vec true ⟨.obj, b0⟩, .cells 9 [.str b1], .cells 4 [.bool false], .cells 67 [.vec 0], .cells 27 [.int .u8 (Z24 a1 b0 b1)], .cells 73 [.fn 35 [.ptr 1 0]], .loop 1 (Z9 12 [(6, .ptr 2 0)]) none]⟩
def Za7 (a1 : Int) (b0 : List XObj) (b1 : ByteArray) (i : Nat) : RT :=
 (.ask (decide ((i : Int) < (b0.length : Int)))
   (.need [0 ≤ (i : Int) ∧ (i : Int) < (b0.length : Int)]
     (.ask (cond (((b0.getD i default).kind) == (Z24 a1 b0 b1)) (Zd4 (b0.getD i default) b1) false)
       (.ask true
         (.ask true
           (.leaf .ret ⟨Z9 30 [], [.vec true ⟨.obj, b0⟩, .cells 9 [.str b1], .cells 4 [.bool true], .cells 67 [.vec 0], .cells 27 [.int .u8 (Z24 a1 b0 b1)], .cells 73 [.fn 35 [.ptr 1 0]], .loop 1 (Z9 12 [(6, .ptr 2 0)]) (some (.ret))]⟩ [])
           .fail)
         .fail)
       (.ask false
         .fail
         (.leaf .normal ⟨Z9 30 [(0, .yld 6), (2, .ptr 4 0), (3, .ptr 5 0), (8, .vec 0), (9, .int .i64 (b0.length : Int)), (10, .int .i64 (IntKind.i64.wrap ((i : Int) + (1 : Int))))], [.vec true ⟨.obj, b0⟩, .cells 9 [.str b1], .cells 4 [.bool false], .cells 67 [.vec 0], .cells 27 [.int .u8 (Z24 a1 b0 b1)], .cells 73 [.fn 35 [.ptr 1 0]], .loop 1 (Z9 12 [(6, .ptr 2 0)]) none]⟩ []))))
   (.leaf (.exit 0) ⟨Z9 30 [], [.vec true ⟨.obj, b0⟩, .cells 9 [.str b1], .cells 4 [.bool false], .cells 67 [.vec 0], .cells 27 [.int .u8 (Z24 a1 b0 b1)], .cells 73 [.fn 35 [.ptr 1 0]], .loop 1 (Z9 12 [(6, .ptr 2 0)]) none]⟩ []))
def Z52 (a1 : Int) (b0 : List XObj) (b1 : ByteArray) (i : Nat) : Tree :=
 .ask (Z3f a1 b0 b1 (b0.drop i)) (.leaf .ret ⟨Z9 30 [], [.vec true ⟨.obj, b0⟩, .cells 9 [.str b1], .cells 4 [.bool true], .cells 67 [.vec 0], .cells 27 [.int .u8 (Z24 a1 b0 b1)], .cells 73 [.fn 35 [.ptr 1 0]], .loop 1 (Z9 12 [(6, .ptr 2 0)]) (some (.ret))]⟩) (.leaf (.exit 0) ⟨Z9 30 [], [.vec true ⟨.obj, b0⟩, .cells 9 [.str b1], .cells 4 [.bool false], .cells 67 [.vec 0], .cells 27 [.int .u8 (Z24 a1 b0 b1)], .cells 73 [.fn 35 [.ptr 1 0]], .loop 1 (Z9 12 [(6, .ptr 2 0)]) none]⟩)
theorem Z12c (a1 : Int) (b0 : List XObj) (b1 : ByteArray) (hp0 : b0.length < 4611686018427387904) (hp1 : ∀ o ∈ b0, o.Fine) (hlen : b0.length < 4611686018427387904) (z : { z : Nat // z ≤ b0.length }) (Q : Exit → St → Prop) (h : (Z52 a1 b0 b1 z.1).All Q) : Tr Tryz.prog 7 (.loop (Z49 Tryz.f41 0)) (Z7e a1 b0 b1 z.1) Q := by
 refine Z98 (kok _ _ _ _ _ _) (E := Zdd) (ι := { z : Nat // z ≤ b0.length }) 60 0 (fun _ => Z2a) (fun z => Z7e a1 b0 b1 z.1) (fun z => Z52 a1 b0 b1 z.1) (fun z => Za7 a1 b0 b1 z.1) (fun z => b0.length - z.1) (fun _ => Z14.none) (fun z => by obtain ⟨i, hi⟩ := z; kernel_rfl) (fun z => by obtain ⟨i, hi⟩ := z; kernel_rfl) (fun z => by obtain ⟨i, hi⟩ := z; kernel_rfl) ?_ z Q h
 rintro ⟨i, hi⟩ Q hT
 replace hT : (Z52 a1 b0 b1 i).All Q := hT
 replace hi : i ≤ b0.length := hi
 show (Za7 a1 b0 b1 i).All _
 unfold Za7
 refine ⟨fun h0 => ?_, fun h0 => ?_⟩
 · have hlt : i < b0.length := by simpa using h0
   have hd := Z8e hlt
   have hw := Z85 (i := i) (by omega)
   refine ⟨Z6 (by first | assumption | omega | (intro; omega) | (simp only [decide_eq_true_eq, decide_eq_false_iff_not, Bool.cond_false_right, Bool.cond_true_right, Bool.cond_true_left, Bool.cond_false_left, Bool.and_eq_true, Bool.or_eq_true, Bool.not_eq_true', Z35, maxLen, List.length_cons, List.length_nil, List.length_append, Z28] at *; omega) | (intro; simp only [decide_eq_true_eq, decide_eq_false_iff_not, Bool.cond_false_right, Bool.cond_true_right, Bool.cond_true_left, Bool.cond_false_left, Bool.and_eq_true, Bool.or_eq_true, Bool.not_eq_true', Z35, maxLen, List.length_cons, List.length_nil, List.length_append, Z28] at *; omega)) (Z10), ?_⟩
   refine ⟨fun h1 => ?_, fun h1 => ?_⟩
   · refine ⟨fun h2 => ?_, fun h2 => ?_⟩
     · refine ⟨fun h3 => ?_, fun h3 => ?_⟩
       · have hF : Z3f a1 b0 b1 (b0.drop i) = true := by rw [hd]; first | exact (Zb h1 (Zb h2 (Zb h3 rfl))) | simp only [Z3f, h0, h1, h2, h3, cond_true, cond_false]
         unfold Z52 at hT
         rw [hF] at hT
         exact hT.1 rfl
       · exact absurd h3 (by simp)
     · exact absurd h2 (by simp)
   · refine ⟨fun h2 => ?_, fun h2 => ?_⟩
     · exact absurd h2 (by simp)
     · have hF : Z3f a1 b0 b1 (b0.drop i) = Z3f a1 b0 b1 (b0.drop (i + 1)) := by rw [hd]; first | exact (Z5 h1 (Z5 h2 rfl)) | simp only [Z3f, h0, h1, h2, cond_true, cond_false]
       refine ⟨⟨(i + 1), by show (i + 1) ≤ b0.length; omega⟩, by show b0.length - (i + 1) < b0.length - i; omega, ?_, ?_⟩
       · show _ = Z7e a1 b0 b1 (i + 1)
         unfold Z7e
         simp only [hw]
       · show (Z52 a1 b0 b1 (i + 1)).All Q
         unfold Z52 at hT ⊢
         rw [hF] at hT
         exact hT
 · have hge : ¬ i < b0.length := by simpa using h0
   have hd : b0.drop i = [] := List.drop_eq_nil_of_le (by omega)
   have hF : Z3f a1 b0 b1 (b0.drop i) = false := by rw [hd]; first | exact rfl | simp only [Z3f, h0, cond_true, cond_false]
   unfold Z52 at hT
   rw [hF] at hT
   exact hT.2 rfl
def Ze7 (a1 : Int) (b0 : List XObj) (b1 : ByteArray) : St :=
 ⟨Z9 12 [(6, .ptr 2 0), (10, .fn 41 [.ptr 3 0, .ptr 4 0, .ptr 5 0])], [.vec true ⟨.obj, b0⟩, .cells 9 [.str b1], .cells 4 [.bool false], .cells 67 [.vec 0], .cells 27 [.int .u8 (Z24 a1 b0 b1)], .cells 73 [.fn 35 [.ptr 1 0]]]⟩
def Z63 (a1 : Int) (b0 : List XObj) (b1 : ByteArray) : Bool :=
 cond (Z3f a1 b0 b1 b0)
  true
  false
def Ze8 (a1 : Int) (b0 : List XObj) (b1 : ByteArray) : RT :=
 (.ask (Z3f a1 b0 b1 b0)
   (.leaf .ret ⟨Z9 30 [], [.vec true ⟨.obj, b0⟩, .cells 9 [.str b1], .cells 4 [.bool true], .cells 67 [.vec 0], .cells 27 [.int .u8 (Z24 a1 b0 b1)], .cells 73 [.fn 35 [.ptr 1 0]], .loop 1 (Z9 12 [(6, .ptr 2 0)]) (some (.ret))]⟩ [])
   (.leaf .normal ⟨Z9 30 [], [.vec true ⟨.obj, b0⟩, .cells 9 [.str b1], .cells 4 [.bool false], .cells 67 [.vec 0], .cells 27 [.int .u8 (Z24 a1 b0 b1)], .cells 73 [.fn 35 [.ptr 1 0]], .loop 1 (Z9 12 [(6, .ptr 2 0)]) none]⟩ []))
def Z94 (a1 : Int) (b0 : List XObj) (b1 : ByteArray) : Tree :=
 .ask (Z63 a1 b0 b1) (.leaf .ret ⟨Z9 12 [(6, .ptr 2 0), (10, .fn 41 [.ptr 3 0, .ptr 4 0, .ptr 5 0])], [.vec true ⟨.obj, b0⟩, .cells 9 [.str b1], .cells 4 [.bool true], .cells 67 [.vec 0], .cells 27 [.int .u8 (Z24 a1 b0 b1)], .cells 73 [.fn 35 [.ptr 1 0]], .dead]⟩) (.leaf .normal ⟨Z9 12 [(6, .ptr 2 0), (10, .fn 41 [.ptr 3 0, .ptr 4 0, .ptr 5 0])], [.vec true ⟨.obj, b0⟩, .cells 9 [.str b1], .cells 4 [.bool false], .cells 67 [.vec 0], .cells 27 [.int .u8 (Z24 a1 b0 b1)], .cells 73 [.fn 35 [.ptr 1 0]], .dead]⟩)
theorem Z17e (a1 : Int) (b0 : List XObj) (b1 : ByteArray) (hp0 : b0.length < 4611686018427387904) (hp1 : ∀ o ∈ b0, o.Fine) (Q : Exit → St → Prop) (hT : (Z94 a1 b0 b1).All Q) : Tr Tryz.prog 2 (Z49 Tryz.f16 0) (Ze7 a1 b0 b1) Q := by
 have hc : Z49 Tryz.f16 0 = .rangeFunc (.tmp 10) (Globs.site 1).1 (Globs.site 1).2.1 (Globs.site 1).2.2 := by kernel_rfl
 rw [hc]
 refine Zc6 (site := 1) (gf := 41) (fn := Tryz.f41) (c := Z3a Tryz.f41) (cap := [.ptr 3 0, .ptr 4 0, .ptr 5 0]) 6 [6] (Z9 12 [(6, .ptr 2 0)]) [.yld 6, .ptr 3 0, .ptr 4 0, .ptr 5 0] [.vec true ⟨.obj, b0⟩, .cells 9 [.str b1], .cells 4 [.bool false], .cells 67 [.vec 0], .cells 27 [.int .u8 (Z24 a1 b0 b1)], .cells 73 [.fn 35 [.ptr 1 0]], .loop 1 (Z9 12 [(6, .ptr 2 0)]) none] rfl (by kernel_rfl) (by kernel_rfl) rfl (by kernel_rfl) (by kernel_rfl) (by kernel_rfl) (by kernel_rfl) (by kernel_rfl) (by kernel_rfl) (by kernel_rfl) (by kernel_rfl) ?_
 refine Z20 (kok _ _ _ _ _ _) (E := Zdd) (L := (Z61 [(0, Z7e a1 b0 b1 0, [], Z52 a1 b0 b1 0)])) 60 9999 (Z14.one (g := Z49 Tryz.f41 0) (b := 0) (by kernel_rfl) (by kernel_rfl) (by kernel_rfl) (by kernel_rfl) (fun Q h => Z12c a1 b0 b1 hp0 hp1 (by first | assumption | omega | exact Z6d _ (by first | assumption | omega | exact Nat.le_trans (w12_few_len _) (by decide)) | exact r12_Uniq_short _ (by first | assumption | omega | exact Nat.le_trans (w12_few_len _) (by decide)) | exact Nat.lt_of_le_of_lt (w12_few_len _) (by decide) | decide | (simp only [List.length_append, List.length_cons, List.length_nil]; have := w12_few_len a0; omega)) ⟨0, by first | exact Nat.zero_le _ | (show 0 ≤ b0.length; omega) | (show 0 ≤ b0.length; exact ⟨Nat.zero_le _, by assumption⟩) | (show 0 ≤ b0.length; simp)⟩ Q h)) (Ze8 a1 b0 b1) (by kernel_rfl) (by kernel_rfl) (by kernel_rfl) ?_
 unfold Ze8
 refine ⟨fun h0 => ?_, fun h0 => ?_⟩
 · have hF : Z63 a1 b0 b1 = true := by first | exact (Zb h0 rfl) | simp only [Z63, h0, cond_true, cond_false]
   unfold Z94 at hT
   rw [hF] at hT
   exact ⟨⟨trivial, .tup [], by kernel_rfl⟩, (some (.ret)), [.vec true ⟨.obj, b0⟩, .cells 9 [.str b1], .cells 4 [.bool true], .cells 67 [.vec 0], .cells 27 [.int .u8 (Z24 a1 b0 b1)], .cells 73 [.fn 35 [.ptr 1 0]], .dead], by kernel_rfl, rfl, by kernel_rfl, by kernel_rfl, by kernel_rfl, by kernel_rfl, hT.1 rfl⟩
 · have hF : Z63 a1 b0 b1 = false := by first | exact (Z5 h0 rfl) | simp only [Z63, h0, cond_true, cond_false]
   unfold Z94 at hT
   rw [hF] at hT
   exact ⟨⟨trivial, .tup [], by kernel_rfl⟩, none, [.vec true ⟨.obj, b0⟩, .cells 9 [.str b1], .cells 4 [.bool false], .cells 67 [.vec 0], .cells 27 [.int .u8 (Z24 a1 b0 b1)], .cells 73 [.fn 35 [.ptr 1 0]], .dead], by kernel_rfl, rfl, by kernel_rfl, by kernel_rfl, by kernel_rfl, by kernel_rfl, hT.2 rfl⟩
noncomputable def Z22e : Env := Z57 (P := Tryz.prog) [Z178] [] [] ckf
def Z6b (a1 : Int) (b0 : List XObj) (b1 : ByteArray) : Bool :=
 cond (Z63 a1 b0 b1)
  true
  false
def Z149 (a1 : Int) (b0 : List XObj) (b1 : ByteArray) : RT :=
 (.ask (Z63 a1 b0 b1)
   (.leaf .ret ⟨Z9 12 [(6, .ptr 2 0)], [.vec true ⟨.obj, b0⟩, .cells 9 [.str b1], .cells 4 [.bool true]]⟩ [])
   (.leaf .ret ⟨Z9 12 [(6, .ptr 2 0)], [.vec true ⟨.obj, b0⟩, .cells 9 [.str b1], .cells 4 [.bool false]]⟩ []))
theorem Z1cb (a1 : Int) (b0 : List XObj) (b1 : ByteArray) (hp0 : b0.length < 4611686018427387904) (hp1 : ∀ o ∈ b0, o.Fine) : Tr Tryz.prog 2 (Z3a Tryz.f16) (Z1f Tryz.f16 [.agg [.vec 0], .int .u8 a1, .fn 35 [.ptr 1 0]] [.vec true ⟨.obj, b0⟩, .cells 9 [.str b1]]) (Z4a Tryz.prog Tryz.f16 (.bool (Z6b a1 b0 b1)) [.vec true ⟨.obj, b0⟩, .cells 9 [.str b1]]) := by
 refine Z20 (kok _ _ _ _ _ _) (E := Z22e) (L := (Z61 [(0, Ze7 a1 b0 b1, [0, 1, 3, 4, 5, 6], Z94 a1 b0 b1)])) 60 9999 (Z14.oneR (g := Z49 Tryz.f16 0) (b := 0) (by kernel_rfl) (by kernel_rfl) (by kernel_rfl) (by kernel_rfl) (fun Q h => Z17e a1 b0 b1 hp0 hp1 Q h)) (Z149 a1 b0 b1) (by kernel_rfl) (by kernel_rfl) (by kernel_rfl) ?_
 unfold Z149
 refine ⟨fun h0 => ?_, fun h0 => ?_⟩
 · have hF : Z6b a1 b0 b1 = true := by first | exact (Zb h0 rfl) | simp only [Z6b, h0, cond_true, cond_false]
   exact ⟨trivial, .inl (by first | (rw [hF]; kernel_rfl) | kernel_rfl), by first | (rw [hF]; kernel_rfl) | kernel_rfl⟩
 · have hF : Z6b a1 b0 b1 = false := by first | exact (Z5 h0 rfl) | simp only [Z6b, h0, cond_true, cond_false]
   exact ⟨trivial, .inl (by first | (rw [hF]; kernel_rfl) | kernel_rfl), by first | (rw [hF]; kernel_rfl) | kernel_rfl⟩
noncomputable def Z1ab : Fact Tryz.prog := Z50 16 Tryz.f16 (by kernel_rfl) rfl (by kernel_rfl) [.agg [.vec 0], .c (.int .u8), .fn 35 [.ptr 1 0]] [.vec true .obj, .cells 9 [.str]] true (fun t u => .bool (Z6b t.2.1 u.1 u.2.1.1)) (fun t u => HPL.enc _ u) (fun t u => [u.1.length < 4611686018427387904, ∀ o ∈ u.1, o.Fine])
 (fun _ _ _ => rfl) (fun t u => by kernel_rfl) (fun t u => by kernel_rfl) (fun t u h => Z1cb t.2.1 u.1 u.2.1.1 (h _ List.mem_cons_self) (h _ (List.mem_cons_of_mem _ List.mem_cons_self)))
noncomputable def E_bind_Volume : Env := Z57 (P := Tryz.prog) [Z1af, Z69, Z1ad, Z9a, Z1ac, Z1ab, Zf8] [] [] ckf
def Ze (a0 : List XObj) (a1 : Int) (a2 : ByteArray) : XAct :=
 cond (!((Z1 (4 : Int) a2 (Z4 a0)).2))
  (default : XAct)
  (cond (cond (cond ((((Z1 (4 : Int) a2 (Z4 a0)).1).phase) == (4 : Int)) (((Z1 (4 : Int) a2 (Z4 a0)).1).deleting) false) (!(((Z1 (4 : Int) a2 (Z4 a0)).1).keep)) false)
    (Z13 ({ ((Z1 (4 : Int) a2 (Z4 a0)).1) with phase := (6 : Int), num := (IntKind.u64.wrap (a1 + (1 : Int))) } : XObj))
    (cond ((((Z1 (4 : Int) a2 (Z4 a0)).1).phase) == (3 : Int))
      (cond (Z6c (3 : Int) (Z4 a0) ((Z1 (4 : Int) a2 (Z4 a0)).1))
        (default : XAct)
        (cond (((Z1 (4 : Int) a2 (Z4 a0)).1).keep)
          (Z13 ({ ((Z1 (4 : Int) a2 (Z4 a0)).1) with phase := (5 : Int) } : XObj))
          (Z13 ({ ((Z1 (4 : Int) a2 (Z4 a0)).1) with phase := (6 : Int), num := (IntKind.u64.wrap (a1 + (1 : Int))) } : XObj))))
      (cond ((((Z1 (4 : Int) a2 (Z4 a0)).1).phase) == (6 : Int))
        (cond (cond (Z59 (5 : Int) (Z4 a0) a2) true (Z6b (7 : Int) (Z4 a0) a2))
          (default : XAct)
          (Z8 (⟨(2 : Int), a2, (((Z1 (4 : Int) a2 (Z4 a0)).1).num), (0 : Int), (⟨#[]⟩ : ByteArray), (⟨#[]⟩ : ByteArray), (⟨#[]⟩ : ByteArray)⟩ : XCall)))
        (default : XAct))))
def Z261 (a0 : List XObj) (a1 : Int) (a2 : ByteArray) : RT :=
 (.need [a0.length ≤ 64]
   (.need [(Z4 a0).length < 4611686018427387904, ∀ o ∈ (Z4 a0), o.Fine]
     (.ask (!((Z1 (4 : Int) a2 (Z4 a0)).2))
       (.leaf .ret ⟨Z9 74 [(6, .ptr 0 0)], [.cells 39 [.int .u8 0, .int .u8 0, .str (⟨#[]⟩ : ByteArray), .int .u64 0, .int .u64 0, .bool false, .bool false, .str (⟨#[]⟩ : ByteArray), .int .i64 0, .int .i64 0, .int .u8 0, .bool false, .bool false, .str (⟨#[]⟩ : ByteArray), .str (⟨#[]⟩ : ByteArray), .str (⟨#[]⟩ : ByteArray), .str (⟨#[]⟩ : ByteArray), .str (⟨#[]⟩ : ByteArray), .int .u8 0, .int .u64 0, .int .u64 0, .int .u8 0, .str (⟨#[]⟩ : ByteArray), .int .u64 0, .int .i64 0, .str (⟨#[]⟩ : ByteArray), .str (⟨#[]⟩ : ByteArray), .str (⟨#[]⟩ : ByteArray)]]⟩ [1])
       (.ask (cond (cond ((((Z1 (4 : Int) a2 (Z4 a0)).1).phase) == (4 : Int)) (((Z1 (4 : Int) a2 (Z4 a0)).1).deleting) false) (!(((Z1 (4 : Int) a2 (Z4 a0)).1).keep)) false)
         (.leaf .ret ⟨Z9 74 [(6, .ptr 0 0)], [.cells 39 (ac (Z13 ({ ((Z1 (4 : Int) a2 (Z4 a0)).1) with phase := (6 : Int), num := (IntKind.u64.wrap (a1 + (1 : Int))) } : XObj)))]⟩ [1])
         (.ask ((((Z1 (4 : Int) a2 (Z4 a0)).1).phase) == (3 : Int))
           (.need [(Z4 a0).length < 4611686018427387904, ∀ o ∈ (Z4 a0), o.Fine]
             (.ask (Z6c (3 : Int) (Z4 a0) ((Z1 (4 : Int) a2 (Z4 a0)).1))
               (.leaf .ret ⟨Z9 74 [(6, .ptr 0 0)], [.cells 39 [.int .u8 0, .int .u8 0, .str (⟨#[]⟩ : ByteArray), .int .u64 0, .int .u64 0, .bool false, .bool false, .str (⟨#[]⟩ : ByteArray), .int .i64 0, .int .i64 0, .int .u8 0, .bool false, .bool false, .str (⟨#[]⟩ : ByteArray), .str (⟨#[]⟩ : ByteArray), .str (⟨#[]⟩ : ByteArray), .str (⟨#[]⟩ : ByteArray), .str (⟨#[]⟩ : ByteArray), .int .u8 0, .int .u64 0, .int .u64 0, .int .u8 0, .str (⟨#[]⟩ : ByteArray), .int .u64 0, .int .i64 0, .str (⟨#[]⟩ : ByteArray), .str (⟨#[]⟩ : ByteArray), .str (⟨#[]⟩ : ByteArray)]]⟩ [1])
               (.ask (((Z1 (4 : Int) a2 (Z4 a0)).1).keep)
                 (.leaf .ret ⟨Z9 74 [(6, .ptr 0 0)], [.cells 39 (ac (Z13 ({ ((Z1 (4 : Int) a2 (Z4 a0)).1) with phase := (5 : Int) } : XObj)))]⟩ [1])
                 (.leaf .ret ⟨Z9 74 [(6, .ptr 0 0)], [.cells 39 (ac (Z13 ({ ((Z1 (4 : Int) a2 (Z4 a0)).1) with phase := (6 : Int), num := (IntKind.u64.wrap (a1 + (1 : Int))) } : XObj)))]⟩ [1]))))
           (.ask ((((Z1 (4 : Int) a2 (Z4 a0)).1).phase) == (6 : Int))
             (.need [(Z4 a0).length < 4611686018427387904, ∀ o ∈ (Z4 a0), o.Fine]
               (.need [((Z59 (5 : Int) (Z4 a0) a2) = false) → ((Z4 a0).length < 4611686018427387904), ((Z59 (5 : Int) (Z4 a0) a2) = false) → (∀ o ∈ (Z4 a0), o.Fine)]
                 (.ask (cond (Z59 (5 : Int) (Z4 a0) a2) true (Z6b (7 : Int) (Z4 a0) a2))
                   (.leaf .ret ⟨Z9 74 [(6, .ptr 0 0)], [.cells 39 [.int .u8 0, .int .u8 0, .str (⟨#[]⟩ : ByteArray), .int .u64 0, .int .u64 0, .bool false, .bool false, .str (⟨#[]⟩ : ByteArray), .int .i64 0, .int .i64 0, .int .u8 0, .bool false, .bool false, .str (⟨#[]⟩ : ByteArray), .str (⟨#[]⟩ : ByteArray), .str (⟨#[]⟩ : ByteArray), .str (⟨#[]⟩ : ByteArray), .str (⟨#[]⟩ : ByteArray), .int .u8 0, .int .u64 0, .int .u64 0, .int .u8 0, .str (⟨#[]⟩ : ByteArray), .int .u64 0, .int .i64 0, .str (⟨#[]⟩ : ByteArray), .str (⟨#[]⟩ : ByteArray), .str (⟨#[]⟩ : ByteArray)]]⟩ [1])
                   (.leaf .ret ⟨Z9 74 [(6, .ptr 0 0)], [.cells 39 (ac (Z8 (⟨(2 : Int), a2, (((Z1 (4 : Int) a2 (Z4 a0)).1).num), (0 : Int), (⟨#[]⟩ : ByteArray), (⟨#[]⟩ : ByteArray), (⟨#[]⟩ : ByteArray)⟩ : XCall)))]⟩ [1]))))
             (.leaf .ret ⟨Z9 74 [(6, .ptr 0 0)], [.cells 39 [.int .u8 0, .int .u8 0, .str (⟨#[]⟩ : ByteArray), .int .u64 0, .int .u64 0, .bool false, .bool false, .str (⟨#[]⟩ : ByteArray), .int .i64 0, .int .i64 0, .int .u8 0, .bool false, .bool false, .str (⟨#[]⟩ : ByteArray), .str (⟨#[]⟩ : ByteArray), .str (⟨#[]⟩ : ByteArray), .str (⟨#[]⟩ : ByteArray), .str (⟨#[]⟩ : ByteArray), .int .u8 0, .int .u64 0, .int .u64 0, .int .u8 0, .str (⟨#[]⟩ : ByteArray), .int .u64 0, .int .i64 0, .str (⟨#[]⟩ : ByteArray), .str (⟨#[]⟩ : ByteArray), .str (⟨#[]⟩ : ByteArray)]]⟩ [1])))))))
theorem bind_VolumeF_tr (a0 : List XObj) (a1 : Int) (a2 : ByteArray) (hp0 : a0.length ≤ 64) (hp1 : ∀ o ∈ a0, o.Fine) : Tr Tryz.prog 0 (Z3a Tryz.f10) (Z1f Tryz.f10 [.coll ⟨.obj, a0⟩, .int .u64 a1, .str a2] []) (Z4a Tryz.prog Tryz.f10 (.agg (ac (Ze a0 a1 a2))) []) := by
 refine Z20 (kok _ _ _ _ _ _) (E := E_bind_Volume) (L := Z2a) 60 9999 Z14.none (Z261 a0 a1 a2) (by kernel_rfl) (by kernel_rfl) (by kernel_rfl) ?_
 unfold Z261
 refine ⟨Z6 (by (try refine fun (_ : _ = _) => ?_); first | assumption | omega | exact of_len _ (by first | assumption | omega | exact Nat.le_trans (w12_few_len _) (by decide)) | exact r12_Uniq_len _ (by first | assumption | omega | exact Nat.le_trans (w12_few_len _) (by decide)) | exact Nat.le_trans (w12_few_len _) (by decide) | decide | (simp only [List.length_append, List.length_cons, List.length_nil]; have := w12_few_len a0; omega)) (Z10), ?_⟩
 refine ⟨Z6 (by (try refine fun (_ : _ = _) => ?_); first | assumption | omega | exact Z6d _ (by first | assumption | omega | exact Nat.le_trans (w12_few_len _) (by decide)) | exact r12_Uniq_short _ (by first | assumption | omega | exact Nat.le_trans (w12_few_len _) (by decide)) | exact Nat.lt_of_le_of_lt (w12_few_len _) (by decide) | decide | (simp only [List.length_append, List.length_cons, List.length_nil]; have := w12_few_len a0; omega)) (Z6 (by (try refine fun (_ : _ = _) => ?_); first | assumption | exact Z4c _ (by first | assumption | exact w12_few_fine (by assumption)) | exact r12_Uniq_fine _ (by first | assumption | exact w12_few_fine (by assumption)) | exact w12_few_fine (by assumption) | exact cons2_fine hp1 ⟨hp1.2.2.2.2.2.2.2.1, Int.le_refl 0, (by decide : (0 : Int) ≤ 18446744073709551615), Nat.zero_le _, Nat.zero_le _, Nat.zero_le _, Z6e _, Nat.zero_le _, Nat.zero_le _⟩ (w12_few_fine hp0) | (simp only [List.mem_cons, List.not_mem_nil, or_false, forall_eq_or_imp, forall_eq, XObj.Fine, Z4e]; decide)) (Z10)), ?_⟩
 refine ⟨fun h0 => ?_, fun h0 => ?_⟩
 · have hF : Ze a0 a1 a2 = (default : XAct) := by first | exact (Zb h0 rfl) | simp only [Ze, h0, cond_true, cond_false]
   exact ⟨trivial, .inl (by first | (rw [hF]; kernel_rfl) | kernel_rfl), by first | (rw [hF]; kernel_rfl) | kernel_rfl⟩
 · refine ⟨fun h1 => ?_, fun h1 => ?_⟩
   · have hF : Ze a0 a1 a2 = (Z13 ({ ((Z1 (4 : Int) a2 (Z4 a0)).1) with phase := (6 : Int), num := (IntKind.u64.wrap (a1 + (1 : Int))) } : XObj)) := by first | exact (Z5 h0 (Zb h1 rfl)) | simp only [Ze, h0, h1, cond_true, cond_false]
     exact ⟨trivial, .inl (by first | (rw [hF]; kernel_rfl) | kernel_rfl), by first | (rw [hF]; kernel_rfl) | kernel_rfl⟩
   · refine ⟨fun h2 => ?_, fun h2 => ?_⟩
     · refine ⟨Z6 (by (try refine fun (_ : _ = _) => ?_); first | assumption | omega | exact Z6d _ (by first | assumption | omega | exact Nat.le_trans (w12_few_len _) (by decide)) | exact r12_Uniq_short _ (by first | assumption | omega | exact Nat.le_trans (w12_few_len _) (by decide)) | exact Nat.lt_of_le_of_lt (w12_few_len _) (by decide) | decide | (simp only [List.length_append, List.length_cons, List.length_nil]; have := w12_few_len a0; omega)) (Z6 (by (try refine fun (_ : _ = _) => ?_); first | assumption | exact Z4c _ (by first | assumption | exact w12_few_fine (by assumption)) | exact r12_Uniq_fine _ (by first | assumption | exact w12_few_fine (by assumption)) | exact w12_few_fine (by assumption) | exact cons2_fine hp1 ⟨hp1.2.2.2.2.2.2.2.1, Int.le_refl 0, (by decide : (0 : Int) ≤ 18446744073709551615), Nat.zero_le _, Nat.zero_le _, Nat.zero_le _, Z6e _, Nat.zero_le _, Nat.zero_le _⟩ (w12_few_fine hp0) | (simp only [List.mem_cons, List.not_mem_nil, or_false, forall_eq_or_imp, forall_eq, XObj.Fine, Z4e]; decide)) (Z10)), ?_⟩
       refine ⟨fun h3 => ?_, fun h3 => ?_⟩
       · have hF : Ze a0 a1 a2 = (default : XAct) := by first | exact (Z5 h0 (Z5 h1 (Zb h2 (Zb h3 rfl)))) | simp only [Ze, h0, h1, h2, h3, cond_true, cond_false]
         exact ⟨trivial, .inl (by first | (rw [hF]; kernel_rfl) | kernel_rfl), by first | (rw [hF]; kernel_rfl) | kernel_rfl⟩
       · refine ⟨fun h4 => ?_, fun h4 => ?_⟩
         · have hF : Ze a0 a1 a2 = (Z13 ({ ((Z1 (4 : Int) a2 (Z4 a0)).1) with phase := (5 : Int) } : XObj)) := by first | exact (Z5 h0 (Z5 h1 (Zb h2 (Z5 h3 (Zb h4 rfl))))) | simp only [Ze, h0, h1, h2, h3, h4, cond_true, cond_false]
           exact ⟨trivial, .inl (by first | (rw [hF]; kernel_rfl) | kernel_rfl), by first | (rw [hF]; kernel_rfl) | kernel_rfl⟩
         · have hF : Ze a0 a1 a2 = (Z13 ({ ((Z1 (4 : Int) a2 (Z4 a0)).1) with phase := (6 : Int), num := (IntKind.u64.wrap (a1 + (1 : Int))) } : XObj)) := by first | exact (Z5 h0 (Z5 h1 (Zb h2 (Z5 h3 (Z5 h4 rfl))))) | simp only [Ze, h0, h1, h2, h3, h4, cond_true, cond_false]
           exact ⟨trivial, .inl (by first | (rw [hF]; kernel_rfl) | kernel_rfl), by first | (rw [hF]; kernel_rfl) | kernel_rfl⟩
     · refine ⟨fun h3 => ?_, fun h3 => ?_⟩
       · refine ⟨Z6 (by (try refine fun (_ : _ = _) => ?_); first | assumption | omega | exact Z6d _ (by first | assumption | omega | exact Nat.le_trans (w12_few_len _) (by decide)) | exact r12_Uniq_short _ (by first | assumption | omega | exact Nat.le_trans (w12_few_len _) (by decide)) | exact Nat.lt_of_le_of_lt (w12_few_len _) (by decide) | decide | (simp only [List.length_append, List.length_cons, List.length_nil]; have := w12_few_len a0; omega)) (Z6 (by (try refine fun (_ : _ = _) => ?_); first | assumption | exact Z4c _ (by first | assumption | exact w12_few_fine (by assumption)) | exact r12_Uniq_fine _ (by first | assumption | exact w12_few_fine (by assumption)) | exact w12_few_fine (by assumption) | exact cons2_fine hp1 ⟨hp1.2.2.2.2.2.2.2.1, Int.le_refl 0, (by decide : (0 : Int) ≤ 18446744073709551615), Nat.zero_le _, Nat.zero_le _, Nat.zero_le _, Z6e _, Nat.zero_le _, Nat.zero_le _⟩ (w12_few_fine hp0) | (simp only [List.mem_cons, List.not_mem_nil, or_false, forall_eq_or_imp, forall_eq, XObj.Fine, Z4e]; decide)) (Z10)), ?_⟩
         refine ⟨Z6 (by (try refine fun (_ : _ = _) => ?_); first | assumption | omega | exact Z6d _ (by first | assumption | omega | exact Nat.le_trans (w12_few_len _) (by decide)) | exact r12_Uniq_short _ (by first | assumption | omega | exact Nat.le_trans (w12_few_len _) (by decide)) | exact Nat.lt_of_le_of_lt (w12_few_len _) (by decide) | decide | (simp only [List.length_append, List.length_cons, List.length_nil]; have := w12_few_len a0; omega)) (Z6 (by (try refine fun (_ : _ = _) => ?_); first | assumption | exact Z4c _ (by first | assumption | exact w12_few_fine (by assumption)) | exact r12_Uniq_fine _ (by first | assumption | exact w12_few_fine (by assumption)) | exact w12_few_fine (by assumption) | exact cons2_fine hp1 ⟨hp1.2.2.2.2.2.2.2.1, Int.le_refl 0, (by decide : (0 : Int) ≤ 18446744073709551615), Nat.zero_le _, Nat.zero_le _, Nat.zero_le _, Z6e _, Nat.zero_le _, Nat.zero_le _⟩ (w12_few_fine hp0) | (simp only [List.mem_cons, List.not_mem_nil, or_false, forall_eq_or_imp, forall_eq, XObj.Fine, Z4e]; decide)) (Z10)), ?_⟩
         refine ⟨fun h4 => ?_, fun h4 => ?_⟩
         · have hF : Ze a0 a1 a2 = (default : XAct) := by first | exact (Z5 h0 (Z5 h1 (Z5 h2 (Zb h3 (Zb h4 rfl))))) | simp only [Ze, h0, h1, h2, h3, h4, cond_true, cond_false]
           exact ⟨trivial, .inl (by first | (rw [hF]; kernel_rfl) | kernel_rfl), by first | (rw [hF]; kernel_rfl) | kernel_rfl⟩
         · have hF : Ze a0 a1 a2 = (Z8 (⟨(2 : Int), a2, (((Z1 (4 : Int) a2 (Z4 a0)).1).num), (0 : Int), (⟨#[]⟩ : ByteArray), (⟨#[]⟩ : ByteArray), (⟨#[]⟩ : ByteArray)⟩ : XCall)) := by first | exact (Z5 h0 (Z5 h1 (Z5 h2 (Zb h3 (Z5 h4 rfl))))) | simp only [Ze, h0, h1, h2, h3, h4, cond_true, cond_false]
           exact ⟨trivial, .inl (by first | (rw [hF]; kernel_rfl) | kernel_rfl), by first | (rw [hF]; kernel_rfl) | kernel_rfl⟩
       · have hF : Ze a0 a1 a2 = (default : XAct) := by first | exact (Z5 h0 (Z5 h1 (Z5 h2 (Z5 h3 rfl)))) | simp only [Ze, h0, h1, h2, h3, cond_true, cond_false]
         exact ⟨trivial, .inl (by first | (rw [hF]; kernel_rfl) | kernel_rfl), by first | (rw [hF]; kernel_rfl) | kernel_rfl⟩
noncomputable def Z271 : Fact Tryz.prog := Z50 10 Tryz.f10 (by kernel_rfl) rfl (by kernel_rfl) [.c (.coll .obj), .c (.int .u64), .c (.str)] [] true (fun t u => .agg (ac (Ze t.1 t.2.1 t.2.2.1))) (fun t u => []) (fun t u => [t.1.length ≤ 64, ∀ o ∈ t.1, o.Fine])
 (fun _ _ _ => rfl) (fun t u => by kernel_rfl) (fun t u => by kernel_rfl) (fun t u h => bind_VolumeF_tr t.1 t.2.1 t.2.2.1 (h _ List.mem_cons_self) (h _ (List.mem_cons_of_mem _ List.mem_cons_self)))
end Go.Proofs.YtkledlcmhbjadaaGreatDoor
