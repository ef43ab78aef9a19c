/- The document's driver: a new one. -/
import Derived.Test.YtkledlcmhbjadaaGreatDName
import Derived.Test.YtkledlcmhbjadaaGreatEE
set_option linter.unusedVariables false
set_option linter.unusedSimpArgs false
set_option maxRecDepth 100000
namespace Go.Proofs.YtkledlcmhbjadaaGreat
open Go Go.Eng
noncomputable def E_r10_New : Env := Z65 (P := Tryz.prog) [Z1e3] [] [] ckf true
def Z6e (a0 : LZ) (i : Nat) : Nat → Nat → Bool
 | 0, i1 => false
 | n + 1, i1 => cond (decide (((a0.getD i1 default).name) = ((a0.getD i default).name)))
  true
  (Z6e a0 i n (i1 + 1))
def Z11d (a0 : LZ) (i : Nat) (i1 : Nat) : St :=
 ⟨Za 63 [(0, .coll ⟨.zone, a0⟩), (3, .int .i64 (i : Int)), (4, .int .i64 (i1 : Int))], []⟩
def Z21b (a0 : LZ) (i : Nat) (i1 : Nat) : RT :=
 (.ask (decide ((i1 : Int) < (i : Int)))
   (.need [0 ≤ (i1 : Int) ∧ (i1 : Int) < (a0.length : Int), 0 ≤ (i : Int) ∧ (i : Int) < (a0.length : Int)]
     (.ask (decide (((a0.getD i1 default).name) = ((a0.getD i default).name)))
       (.leaf .ret ⟨Za 63 [(2, .nilp)], []⟩ [])
       (.leaf .normal ⟨Za 63 [(0, .coll ⟨.zone, a0⟩), (3, .int .i64 (i : Int)), (4, .int .i64 (IntKind.i64.wrap ((i1 : Int) + (1 : Int))))], []⟩ [])))
   (.leaf (.exit 2) ⟨Za 63 [(0, .coll ⟨.zone, a0⟩), (3, .int .i64 (i : Int))], []⟩ []))
def Zb0 (a0 : LZ) (i : Nat) (i1 : Nat) : Tree :=
 .ask (Z6e a0 i (((i : Int).toNat) - i1) i1) (.leaf .ret ⟨Za 63 [(2, .nilp)], []⟩) (.leaf (.exit 2) ⟨Za 63 [(0, .coll ⟨.zone, a0⟩), (3, .int .i64 (i : Int))], []⟩)
theorem r10_NewL1_loop (a0 : LZ) (i : Nat) (hp0 : a0.length < 4611686018427387904) (hp1 : ∀ z ∈ a0, z.name.size < 4611686018427387904) (hlen : ((i : Int).toNat) < 4611686018427387904) (hn0 : 0 ≤ (i : Int) ∧ (i : Int) < (a0.length : Int)) (z : { z : Nat // z ≤ ((i : Int).toNat) }) (Q : Exit → St → Prop) (h : (Zb0 a0 i z.1).All Q) : Tr Tryz.prog 0 (.loop (Z221 (Z47 Tryz.f39 0) 0 0)) (Z11d a0 i z.1) Q := by
 refine Z60 (kok _ _ _ _ _ _) (E := E_r10_New) (ι := { z : Nat // z ≤ ((i : Int).toNat) }) 60 2 (fun _ => Z32) (fun z => Z11d a0 i z.1) (fun z => Zb0 a0 i z.1) (fun z => Z21b a0 i z.1) (fun z => ((i : Int).toNat) - z.1) (fun _ => Z14.none) (fun z => by obtain ⟨i1, hi⟩ := z; kernel_rfl) (fun z => by obtain ⟨i1, hi⟩ := z; kernel_rfl) (fun z => by obtain ⟨i1, hi⟩ := z; kernel_rfl) ?_ z Q h
 rintro ⟨i1, hi⟩ Q hT
 replace hT : (Zb0 a0 i i1).All Q := hT
 replace hi : i1 ≤ ((i : Int).toNat) := hi
 show (Z21b a0 i i1).All _
 unfold Z21b
 refine ⟨fun h0 => ?_, fun h0 => ?_⟩
 · have hlt : i1 < ((i : Int).toNat) := by have h9 := h0; simp only [decide_eq_true_eq, decide_eq_false_iff_not] at h9; omega
   have hd : ((i : Int).toNat) - i1 = (((i : Int).toNat) - (i1 + 1)) + 1 := by omega
   have hw := Z4e (i := i1) (by omega)
   refine ⟨(by (iterate 2 refine Z2 (by (try refine fun (_ : _ = _) => ?_); first | omega | (constructor <;> omega)) ?_); exact Z9), ?_⟩
   refine ⟨fun h1 => ?_, fun h1 => ?_⟩
   · have hF : Z6e a0 i (((i : Int).toNat) - i1) i1 = true := by rw [hd]; first | exact (Z12 h1 rfl) | simp only [Z6e, h0, h1, cond_true, cond_false]
     unfold Zb0 at hT
     rw [hF] at hT
     exact hT.1 rfl
   · have hF : Z6e a0 i (((i : Int).toNat) - i1) i1 = Z6e a0 i (((i : Int).toNat) - (i1 + 1)) (i1 + 1) := by rw [hd]; first | exact (Z3 h1 rfl) | simp only [Z6e, h0, h1, cond_true, cond_false]
     refine ⟨⟨(i1 + 1), by show (i1 + 1) ≤ ((i : Int).toNat); omega⟩, by show ((i : Int).toNat) - (i1 + 1) < ((i : Int).toNat) - i1; omega, ?_, ?_⟩
     · show _ = Z11d a0 i (i1 + 1)
       unfold Z11d
       simp only [hw]
     · show (Zb0 a0 i (i1 + 1)).All Q
       unfold Zb0 at hT ⊢
       rw [hF] at hT
       exact hT
 · have hge : ¬ i1 < ((i : Int).toNat) := by have h9 := h0; simp only [decide_eq_true_eq, decide_eq_false_iff_not] at h9; omega
   have hd : ((i : Int).toNat) - i1 = 0 := by omega
   have hF : Z6e a0 i (((i : Int).toNat) - i1) i1 = false := by rw [hd]; first | exact rfl | simp only [Z6e, h0, cond_true, cond_false]
   unfold Zb0 at hT
   rw [hF] at hT
   exact hT.2 rfl
def Z6b (a0 : LZ) : LZ → Nat → Bool
 | [], i => false
 | o :: r, i => cond (cond (cond (!(Z3e (o.name))) true (decide ((o.room) < (0 : Int)))) true (decide ((o.room) > (1125899906842624 : Int))))
  true
  (cond (Z6e a0 i (((i : Int).toNat)) 0)
    true
    (Z6b a0 r (i + 1)))
def Z16b (a0 : LZ) (i : Nat) : St :=
 ⟨Za 63 [(0, .coll ⟨.zone, a0⟩), (3, .int .i64 (i : Int))], []⟩
def r10_NewLR (a0 : LZ) (i : Nat) : RT :=
 (.ask (decide ((i : Int) < (a0.length : Int)))
   (.need [0 ≤ (i : Int) ∧ (i : Int) < (a0.length : Int)]
     (.need [((a0.getD i default).name).size < 4611686018427387904]
       (.need [((!(Z3e ((a0.getD i default).name))) = false) → (0 ≤ (i : Int) ∧ (i : Int) < (a0.length : Int))]
         (.need [((cond (!(Z3e ((a0.getD i default).name))) true (decide (((a0.getD i default).room) < (0 : Int)))) = false) → (0 ≤ (i : Int) ∧ (i : Int) < (a0.length : Int))]
           (.ask (cond (cond (!(Z3e ((a0.getD i default).name))) true (decide (((a0.getD i default).room) < (0 : Int)))) true (decide (((a0.getD i default).room) > (1125899906842624 : Int))))
             (.leaf .ret ⟨Za 63 [(2, .nilp)], []⟩ [])
             (.need [0 ≤ (i : Int) ∧ (i : Int) < (a0.length : Int)]
               (.ask (Z6e a0 i (((i : Int).toNat)) 0)
                 (.leaf .ret ⟨Za 63 [(2, .nilp)], []⟩ [])
                 (.leaf .normal ⟨Za 63 [(0, .coll ⟨.zone, a0⟩), (3, .int .i64 (IntKind.i64.wrap ((i : Int) + (1 : Int))))], []⟩ []))))))))
   (.leaf (.exit 0) ⟨Za 63 [(0, .coll ⟨.zone, a0⟩)], []⟩ []))
def Zbc (a0 : LZ) (i : Nat) : Tree :=
 .ask (Z6b a0 (a0.drop i) i) (.leaf .ret ⟨Za 63 [(2, .nilp)], []⟩) (.leaf (.exit 0) ⟨Za 63 [(0, .coll ⟨.zone, a0⟩)], []⟩)
theorem r10_NewL_loop (a0 : LZ) (hp0 : a0.length < 4611686018427387904) (hp1 : ∀ z ∈ a0, z.name.size < 4611686018427387904) (hlen : a0.length < 4611686018427387904) (z : { z : Nat // z ≤ a0.length }) (Q : Exit → St → Prop) (h : (Zbc a0 z.1).All Q) : Tr Tryz.prog 0 (.loop (Z47 Tryz.f39 0)) (Z16b a0 z.1) Q := by
 refine Z60 (kok _ _ _ _ _ _) (E := E_r10_New) (ι := { z : Nat // z ≤ a0.length }) 60 0 (fun z => Z5f [(2, Z11d a0 z.1 0, [], .need [0 ≤ (z.1 : Int) ∧ (z.1 : Int) < (a0.length : Int)] (Zb0 a0 z.1 0))]) (fun z => Z16b a0 z.1) (fun z => Zbc a0 z.1) (fun z => r10_NewLR a0 z.1) (fun z => a0.length - z.1) (fun z => by obtain ⟨i, hi⟩ := z; exact Z14.one (g := Z221 (Z47 Tryz.f39 0) 0 0) (b := 2) (by kernel_rfl) (by kernel_rfl) (by kernel_rfl) (by kernel_rfl) (fun Q h => r10_NewL1_loop a0 i hp0 hp1 (by first | assumption | omega | (simp only [List.length_cons, List.length_nil, List.length_append]; omega)) (h.1 _ mS) ⟨0, by first | exact Nat.zero_le _ | (show 0 ≤ ((i : Int).toNat); omega) | (show 0 ≤ ((i : Int).toNat); exact ⟨Nat.zero_le _, by assumption⟩) | (show 0 ≤ ((i : Int).toNat); simp)⟩ Q h.2)) (fun z => by obtain ⟨i, hi⟩ := z; kernel_rfl) (fun z => by obtain ⟨i, hi⟩ := z; kernel_rfl) (fun z => by obtain ⟨i, hi⟩ := z; kernel_rfl) ?_ z Q h
 rintro ⟨i, hi⟩ Q hT
 replace hT : (Zbc a0 i).All Q := hT
 replace hi : i ≤ a0.length := hi
 show (r10_NewLR a0 i).All _
 unfold r10_NewLR
 refine ⟨fun h0 => ?_, fun h0 => ?_⟩
 · have hlt : i < a0.length := by simpa using h0
   have hd := Z64 hlt
   have hw := Z4e (i := i) (by omega)
   refine ⟨Z2 (by (try refine fun (_ : _ = _) => ?_); first | omega | (constructor <;> omega)) (Z9), ?_⟩
   refine ⟨Z2 (by (try refine fun (_ : _ = _) => ?_); exact (hp1 _ (Z172 hlt))) (Z9), ?_⟩
   refine ⟨Z2 (by (try refine fun (_ : _ = _) => ?_); first | omega | (constructor <;> omega)) (Z9), ?_⟩
   refine ⟨Z2 (by (try refine fun (_ : _ = _) => ?_); first | omega | (constructor <;> omega)) (Z9), ?_⟩
   refine ⟨fun h1 => ?_, fun h1 => ?_⟩
   · have hF : Z6b a0 (a0.drop i) i = true := by rw [hd]; first | exact (Z12 h1 rfl) | simp only [Z6b, h0, h1, cond_true, cond_false]
     unfold Zbc at hT
     rw [hF] at hT
     exact hT.1 rfl
   · refine ⟨Z2 (by (try refine fun (_ : _ = _) => ?_); first | omega | (constructor <;> omega)) (Z9), ?_⟩
     refine ⟨fun h2 => ?_, fun h2 => ?_⟩
     · have hF : Z6b a0 (a0.drop i) i = true := by rw [hd]; first | exact (Z3 h1 (Z12 h2 rfl)) | simp only [Z6b, h0, h1, h2, cond_true, cond_false]
       unfold Zbc at hT
       rw [hF] at hT
       exact hT.1 rfl
     · have hF : Z6b a0 (a0.drop i) i = Z6b a0 (a0.drop (i + 1)) (i + 1) := by rw [hd]; first | exact (Z3 h1 (Z3 h2 rfl)) | simp only [Z6b, h0, h1, h2, cond_true, cond_false]
       refine ⟨⟨(i + 1), by show (i + 1) ≤ a0.length; omega⟩, by show a0.length - (i + 1) < a0.length - i; omega, ?_, ?_⟩
       · show _ = Z16b a0 (i + 1)
         unfold Z16b
         simp only [hw]
       · show (Zbc a0 (i + 1)).All Q
         unfold Zbc at hT ⊢
         rw [hF] at hT
         exact hT
 · have hge : ¬ i < a0.length := by simpa using h0
   have hd : a0.drop i = [] := List.drop_eq_nil_of_le (by omega)
   have hF : Z6b a0 (a0.drop i) i = false := by rw [hd]; first | exact rfl | simp only [Z6b, h0, cond_true, cond_false]
   unfold Zbc at hT
   rw [hF] at hT
   exact hT.2 rfl
def Z38 (a0 : LZ) : Bool × LZ × LV × LS × LQ :=
 cond (cond (decide ((a0.length : Int) < (1 : Int))) true (decide ((a0.length : Int) > (16 : Int))))
  (false, default, default, default, default)
  (cond (Z6b a0 a0 0)
    (false, default, default, default, default)
    (true, ([] ++ a0), [], [], []))
def r10_NewR (a0 : LZ) : RT :=
 (.ask (cond (decide ((a0.length : Int) < (1 : Int))) true (decide ((a0.length : Int) > (16 : Int))))
   (.leaf .ret ⟨Za 63 [(2, .nilp)], []⟩ [])
   (.ask (Z6b a0 a0 0)
     (.leaf .ret ⟨Za 63 [(2, .nilp)], []⟩ [])
     (.need [(([] : LZ).length + a0.length) * 24 ≤ Z18 ∧ ([] : LZ).length + a0.length ≤ maxLen]
       (.leaf .ret ⟨Za 63 [(2, .ptr 0 0)], [.cells 111 [.vec 1, .nils, .nils, .nils], .vec false ⟨.zone, ([] ++ a0)⟩]⟩ [2, 1]))))
theorem r10_NewF_trA (a0 : LZ) (hp0 : a0.length < 4611686018427387904) (hp1 : ∀ z ∈ a0, z.name.size < 4611686018427387904) (hfl : (Z38 a0).1 = true) : Tr Tryz.prog 0 (Z3c Tryz.f39) (Z27 Tryz.f39 [.coll ⟨.zone, a0⟩] []) (Z48 Tryz.prog Tryz.f39 (.ptr 0 0) (.cells 111 [.vec 1, .vec 2, .vec 3, .vec 4] :: oV ((Z38 a0).2.1) ((Z38 a0).2.2.1) ((Z38 a0).2.2.2.1) ((Z38 a0).2.2.2.2) [])) := by
 refine Tr.post ?_
 refine Z2f (kok _ _ _ _ _ _) (E := E_r10_New) (L := (Z5f [(0, Z16b a0 0, [], Zbc a0 0)])) 60 9999 (Z14.one (g := Z47 Tryz.f39 0) (b := 0) (by kernel_rfl) (by kernel_rfl) (by kernel_rfl) (by kernel_rfl) (fun Q h => r10_NewL_loop a0 hp0 hp1 (by first | assumption | omega | (simp only [List.length_cons, List.length_nil, List.length_append]; omega)) ⟨0, by first | exact Nat.zero_le _ | (show 0 ≤ a0.length; omega) | (show 0 ≤ a0.length; exact ⟨Nat.zero_le _, by assumption⟩) | (show 0 ≤ a0.length; simp)⟩ Q h)) (r10_NewR a0) (by kernel_rfl) (by kernel_rfl) (by kernel_rfl) ?_
 unfold r10_NewR
 refine ⟨fun h0 => ?_, fun h0 => ?_⟩
 · have hF : Z38 a0 = (false, default, default, default, default) := by first | exact (Z12 h0 rfl) | simp only [Z38, h0, cond_true, cond_false]
   exact absurd hfl (by rw [hF]; simp)
 · refine ⟨fun h1 => ?_, fun h1 => ?_⟩
   · have hF : Z38 a0 = (false, default, default, default, default) := by first | exact (Z3 h0 (Z12 h1 rfl)) | simp only [Z38, h0, h1, cond_true, cond_false]
     exact absurd hfl (by rw [hF]; simp)
   · refine ⟨Z2 (by (try simp only [Bool.cond_true_left, Bool.or_eq_false_iff, decide_eq_false_iff_not] at h0); unfold Z18 maxLen; simp only [List.length_cons, List.length_nil]; omega) (Z9), ?_⟩
     have hF : Z38 a0 = (true, ([] ++ a0), [], [], []) := by first | exact (Z3 h0 (Z3 h1 rfl)) | simp only [Z38, h0, h1, cond_true, cond_false]
     exact ⟨_, ((Turn.ownNil 0 1 2 .vol rfl rfl (by simp [hset, oM, oV])).trans (Turn.ownNil 0 2 3 .snap rfl rfl (by simp [hset, oM, oV]))).trans (Turn.ownNil 0 3 4 .done rfl rfl (by simp [hset, oM, oV])), trivial, .inl (by (try rw [hF]); kernel_rfl), by (try rw [hF]); kernel_rfl⟩
noncomputable def r10_NewA_fact : Fact Tryz.prog := Z4b 39 Tryz.f39 (by kernel_rfl) rfl (by kernel_rfl) [.c (.coll .zone)] [] false (fun t u => .ptr 0 0) (fun t u => (.cells 111 [.vec 1, .vec 2, .vec 3, .vec 4] :: oV ((Z38 t.1).2.1) ((Z38 t.1).2.2.1) ((Z38 t.1).2.2.2.1) ((Z38 t.1).2.2.2.2) [])) (fun t u => [t.1.length < 4611686018427387904, ∀ z ∈ t.1, z.name.size < 4611686018427387904, (Z38 t.1).1 = true])
 (nofun) (fun t u => by kernel_rfl) (fun t u => by kernel_rfl) (fun t u h => r10_NewF_trA t.1 (h _ mS) (h _ (mN mS)) (h _ (mN (mN mS))))
end Go.Proofs.YtkledlcmhbjadaaGreat
