/- The document's driver: a new one. -/
import Derived.Test.YtpffbkbadnhmmaaDName
import Derived.Test.YtpffbkbadnhmmaaEE
set_option linter.unusedVariables false
set_option linter.unusedSimpArgs false
set_option maxRecDepth 100000
namespace Go.Proofs.Ytpffbkbadnhmmaa
open Go Go.Eng
noncomputable def E_r10_New : Env := Z62 (P := Try.prog) [Z1dd] [] [] ckf true
def Z6a (a0 : LZ) (i : Nat) : Nat → Nat → Bool
 | 0, i1 => false
 | n + 1, i1 => cond (decide (((a0.getD i1 default).name) = ((a0.getD i default).name)))
  true
  (Z6a a0 i n (i1 + 1))
def Z116 (a0 : LZ) (i : Nat) (i1 : Nat) : St :=
 ⟨Z9 63 [(0, .coll ⟨.zone, a0⟩), (3, .int .i64 (i : Int)), (4, .int .i64 (i1 : Int))], []⟩
def Z212 (a0 : LZ) (i : Nat) (i1 : Nat) : RT :=
 (.ask (decide ((i1 : Int) < (i : Int)))
   (.need [0 ≤ (i1 : Int) ∧ (i1 : Int) < (a0.length : Int), 0 ≤ (i : Int) ∧ (i : Int) < (a0.length : Int)]
     (.ask (decide (((a0.getD i1 default).name) = ((a0.getD i default).name)))
       (.leaf .ret ⟨Z9 63 [(2, .nilp)], []⟩ [])
       (.leaf .normal ⟨Z9 63 [(0, .coll ⟨.zone, a0⟩), (3, .int .i64 (i : Int)), (4, .int .i64 (IntKind.i64.wrap ((i1 : Int) + (1 : Int))))], []⟩ [])))
   (.leaf (.exit 2) ⟨Z9 63 [(0, .coll ⟨.zone, a0⟩), (3, .int .i64 (i : Int))], []⟩ []))
def Zaf (a0 : LZ) (i : Nat) (i1 : Nat) : Tree :=
 .ask (Z6a a0 i (((i : Int).toNat) - i1) i1) (.leaf .ret ⟨Z9 63 [(2, .nilp)], []⟩) (.leaf (.exit 2) ⟨Z9 63 [(0, .coll ⟨.zone, a0⟩), (3, .int .i64 (i : Int))], []⟩)
theorem r10_NewL1_loop (a0 : LZ) (i : Nat) (hp0 : a0.length < 4611686018427387904) (hp1 : ∀ z ∈ a0, z.name.size < 4611686018427387904) (hlen : ((i : Int).toNat) < 4611686018427387904) (hn0 : 0 ≤ (i : Int) ∧ (i : Int) < (a0.length : Int)) (z : { z : Nat // z ≤ ((i : Int).toNat) }) (Q : Exit → St → Prop) (h : (Zaf a0 i z.1).All Q) : Tr Try.prog 0 (.loop (loopSub (Z47 Try.f20 0) 0 0)) (Z116 a0 i z.1) Q := by
 refine Z61 (kok _ _ _ _ _ _) (E := E_r10_New) (ι := { z : Nat // z ≤ ((i : Int).toNat) }) 60 2 (fun _ => Z30) (fun z => Z116 a0 i z.1) (fun z => Zaf a0 i z.1) (fun z => Z212 a0 i z.1) (fun z => ((i : Int).toNat) - z.1) (fun _ => Z13.none) (fun z => by obtain ⟨i1, hi⟩ := z; kernel_rfl) (fun z => by obtain ⟨i1, hi⟩ := z; kernel_rfl) (fun z => by obtain ⟨i1, hi⟩ := z; kernel_rfl) ?_ z Q h
 rintro ⟨i1, hi⟩ Q hT
 replace hT : (Zaf a0 i i1).All Q := hT
 replace hi : i1 ≤ ((i : Int).toNat) := hi
 show (Z212 a0 i i1).All _
 unfold Z212
 refine ⟨fun h0 => ?_, fun h0 => ?_⟩
 · have hlt : i1 < ((i : Int).toNat) := by have h9 := h0; simp only [decide_eq_true_eq, decide_eq_false_iff_not] at h9; omega
   have hd : ((i : Int).toNat) - i1 = (((i : Int).toNat) - (i1 + 1)) + 1 := by omega
   have hw := Z50 (i := i1) (by omega)
   refine ⟨(by (iterate 2 refine Z2 (by (try refine fun (_ : _ = _) => ?_); first | omega | (constructor <;> omega)) ?_); exact Z7), ?_⟩
   refine ⟨fun h1 => ?_, fun h1 => ?_⟩
   · have hF : Z6a a0 i (((i : Int).toNat) - i1) i1 = true := by rw [hd]; first | exact (Z11 h1 rfl) | simp only [Z6a, h0, h1, cond_true, cond_false]
     unfold Zaf at hT
     rw [hF] at hT
     exact hT.1 rfl
   · have hF : Z6a a0 i (((i : Int).toNat) - i1) i1 = Z6a a0 i (((i : Int).toNat) - (i1 + 1)) (i1 + 1) := by rw [hd]; first | exact (Z3 h1 rfl) | simp only [Z6a, h0, h1, cond_true, cond_false]
     refine ⟨⟨(i1 + 1), by show (i1 + 1) ≤ ((i : Int).toNat); omega⟩, by show ((i : Int).toNat) - (i1 + 1) < ((i : Int).toNat) - i1; omega, ?_, ?_⟩
     · show _ = Z116 a0 i (i1 + 1)
       unfold Z116
       simp only [hw]
     · show (Zaf a0 i (i1 + 1)).All Q
       unfold Zaf at hT ⊢
       rw [hF] at hT
       exact hT
 · have hge : ¬ i1 < ((i : Int).toNat) := by have h9 := h0; simp only [decide_eq_true_eq, decide_eq_false_iff_not] at h9; omega
   have hd : ((i : Int).toNat) - i1 = 0 := by omega
   have hF : Z6a a0 i (((i : Int).toNat) - i1) i1 = false := by rw [hd]; first | exact rfl | simp only [Z6a, h0, cond_true, cond_false]
   unfold Zaf at hT
   rw [hF] at hT
   exact hT.2 rfl
def Z67 (a0 : LZ) : LZ → Nat → Bool
 | [], i => false
 | o :: r, i => cond (cond (cond (!(Z45 (o.name))) true (decide ((o.room) < (0 : Int)))) true (decide ((o.room) > (1125899906842624 : Int))))
  true
  (cond (Z6a a0 i (((i : Int).toNat)) 0)
    true
    (Z67 a0 r (i + 1)))
def Z164 (a0 : LZ) (i : Nat) : St :=
 ⟨Z9 63 [(0, .coll ⟨.zone, a0⟩), (3, .int .i64 (i : Int))], []⟩
def r10_NewLR (a0 : LZ) (i : Nat) : RT :=
 (.ask (decide ((i : Int) < (a0.length : Int)))
   (.need [0 ≤ (i : Int) ∧ (i : Int) < (a0.length : Int)]
     (.need [((a0.getD i default).name).size < 4611686018427387904]
       (.need [((!(Z45 ((a0.getD i default).name))) = false) → (0 ≤ (i : Int) ∧ (i : Int) < (a0.length : Int))]
         (.need [((cond (!(Z45 ((a0.getD i default).name))) true (decide (((a0.getD i default).room) < (0 : Int)))) = false) → (0 ≤ (i : Int) ∧ (i : Int) < (a0.length : Int))]
           (.ask (cond (cond (!(Z45 ((a0.getD i default).name))) true (decide (((a0.getD i default).room) < (0 : Int)))) true (decide (((a0.getD i default).room) > (1125899906842624 : Int))))
             (.leaf .ret ⟨Z9 63 [(2, .nilp)], []⟩ [])
             (.need [0 ≤ (i : Int) ∧ (i : Int) < (a0.length : Int)]
               (.ask (Z6a a0 i (((i : Int).toNat)) 0)
                 (.leaf .ret ⟨Z9 63 [(2, .nilp)], []⟩ [])
                 (.leaf .normal ⟨Z9 63 [(0, .coll ⟨.zone, a0⟩), (3, .int .i64 (IntKind.i64.wrap ((i : Int) + (1 : Int))))], []⟩ []))))))))
   (.leaf (.exit 0) ⟨Z9 63 [(0, .coll ⟨.zone, a0⟩)], []⟩ []))
def Zba (a0 : LZ) (i : Nat) : Tree :=
 .ask (Z67 a0 (a0.drop i) i) (.leaf .ret ⟨Z9 63 [(2, .nilp)], []⟩) (.leaf (.exit 0) ⟨Z9 63 [(0, .coll ⟨.zone, a0⟩)], []⟩)
theorem r10_NewL_loop (a0 : LZ) (hp0 : a0.length < 4611686018427387904) (hp1 : ∀ z ∈ a0, z.name.size < 4611686018427387904) (hlen : a0.length < 4611686018427387904) (z : { z : Nat // z ≤ a0.length }) (Q : Exit → St → Prop) (h : (Zba a0 z.1).All Q) : Tr Try.prog 0 (.loop (Z47 Try.f20 0)) (Z164 a0 z.1) Q := by
 refine Z61 (kok _ _ _ _ _ _) (E := E_r10_New) (ι := { z : Nat // z ≤ a0.length }) 60 0 (fun z => Z5f [(2, Z116 a0 z.1 0, [], .need [0 ≤ (z.1 : Int) ∧ (z.1 : Int) < (a0.length : Int)] (Zaf a0 z.1 0))]) (fun z => Z164 a0 z.1) (fun z => Zba a0 z.1) (fun z => r10_NewLR a0 z.1) (fun z => a0.length - z.1) (fun z => by obtain ⟨i, hi⟩ := z; exact Z13.one (g := loopSub (Z47 Try.f20 0) 0 0) (b := 2) (by kernel_rfl) (by kernel_rfl) (by kernel_rfl) (by kernel_rfl) (fun Q h => r10_NewL1_loop a0 i hp0 hp1 (by first | assumption | omega | (simp only [List.length_cons, List.length_nil, List.length_append]; omega)) (h.1 _ mS) ⟨0, by first | exact Nat.zero_le _ | (show 0 ≤ ((i : Int).toNat); omega) | (show 0 ≤ ((i : Int).toNat); exact ⟨Nat.zero_le _, by assumption⟩) | (show 0 ≤ ((i : Int).toNat); simp)⟩ Q h.2)) (fun z => by obtain ⟨i, hi⟩ := z; kernel_rfl) (fun z => by obtain ⟨i, hi⟩ := z; kernel_rfl) (fun z => by obtain ⟨i, hi⟩ := z; kernel_rfl) ?_ z Q h
 rintro ⟨i, hi⟩ Q hT
 replace hT : (Zba a0 i).All Q := hT
 replace hi : i ≤ a0.length := hi
 show (r10_NewLR a0 i).All _
 unfold r10_NewLR
 refine ⟨fun h0 => ?_, fun h0 => ?_⟩
 · have hlt : i < a0.length := by simpa using h0
   have hd := Z64 hlt
   have hw := Z50 (i := i) (by omega)
   refine ⟨Z2 (by (try refine fun (_ : _ = _) => ?_); first | omega | (constructor <;> omega)) (Z7), ?_⟩
   refine ⟨Z2 (by (try refine fun (_ : _ = _) => ?_); exact (hp1 _ (Z235 hlt))) (Z7), ?_⟩
   refine ⟨Z2 (by (try refine fun (_ : _ = _) => ?_); first | omega | (constructor <;> omega)) (Z7), ?_⟩
   refine ⟨Z2 (by (try refine fun (_ : _ = _) => ?_); first | omega | (constructor <;> omega)) (Z7), ?_⟩
   refine ⟨fun h1 => ?_, fun h1 => ?_⟩
   · have hF : Z67 a0 (a0.drop i) i = true := by rw [hd]; first | exact (Z11 h1 rfl) | simp only [Z67, h0, h1, cond_true, cond_false]
     unfold Zba at hT
     rw [hF] at hT
     exact hT.1 rfl
   · refine ⟨Z2 (by (try refine fun (_ : _ = _) => ?_); first | omega | (constructor <;> omega)) (Z7), ?_⟩
     refine ⟨fun h2 => ?_, fun h2 => ?_⟩
     · have hF : Z67 a0 (a0.drop i) i = true := by rw [hd]; first | exact (Z3 h1 (Z11 h2 rfl)) | simp only [Z67, h0, h1, h2, cond_true, cond_false]
       unfold Zba at hT
       rw [hF] at hT
       exact hT.1 rfl
     · have hF : Z67 a0 (a0.drop i) i = Z67 a0 (a0.drop (i + 1)) (i + 1) := by rw [hd]; first | exact (Z3 h1 (Z3 h2 rfl)) | simp only [Z67, h0, h1, h2, cond_true, cond_false]
       refine ⟨⟨(i + 1), by show (i + 1) ≤ a0.length; omega⟩, by show a0.length - (i + 1) < a0.length - i; omega, ?_, ?_⟩
       · show _ = Z164 a0 (i + 1)
         unfold Z164
         simp only [hw]
       · show (Zba a0 (i + 1)).All Q
         unfold Zba at hT ⊢
         rw [hF] at hT
         exact hT
 · have hge : ¬ i < a0.length := by simpa using h0
   have hd : a0.drop i = [] := List.drop_eq_nil_of_le (by omega)
   have hF : Z67 a0 (a0.drop i) i = false := by rw [hd]; first | exact rfl | simp only [Z67, h0, cond_true, cond_false]
   unfold Zba at hT
   rw [hF] at hT
   exact hT.2 rfl
def Z35 (a0 : LZ) : Bool × LZ × LV × LS × LQ :=
 cond (cond (decide ((a0.length : Int) < (1 : Int))) true (decide ((a0.length : Int) > (16 : Int))))
  (false, default, default, default, default)
  (cond (Z67 a0 a0 0)
    (false, default, default, default, default)
    (true, ([] ++ a0), [], [], []))
def r10_NewR (a0 : LZ) : RT :=
 (.ask (cond (decide ((a0.length : Int) < (1 : Int))) true (decide ((a0.length : Int) > (16 : Int))))
   (.leaf .ret ⟨Z9 63 [(2, .nilp)], []⟩ [])
   (.ask (Z67 a0 a0 0)
     (.leaf .ret ⟨Z9 63 [(2, .nilp)], []⟩ [])
     (.need [(([] : LZ).length + a0.length) * 24 ≤ Z16 ∧ ([] : LZ).length + a0.length ≤ maxLen]
       (.leaf .ret ⟨Z9 63 [(2, .ptr 0 0)], [.cells 106 [.vec 1, .nils, .nils, .nils], .vec false ⟨.zone, ([] ++ a0)⟩]⟩ [2, 1]))))
theorem r10_NewF_trA (a0 : LZ) (hp0 : a0.length < 4611686018427387904) (hp1 : ∀ z ∈ a0, z.name.size < 4611686018427387904) (hfl : (Z35 a0).1 = true) : Tr Try.prog 0 (Z3b Try.f20) (Z25 Try.f20 [.coll ⟨.zone, a0⟩] []) (Z46 Try.prog Try.f20 (.ptr 0 0) (.cells 106 [.vec 1, .vec 2, .vec 3, .vec 4] :: oV ((Z35 a0).2.1) ((Z35 a0).2.2.1) ((Z35 a0).2.2.2.1) ((Z35 a0).2.2.2.2) [])) := by
 refine Tr.post ?_
 refine Z2f (kok _ _ _ _ _ _) (E := E_r10_New) (L := (Z5f [(0, Z164 a0 0, [], Zba a0 0)])) 60 9999 (Z13.one (g := Z47 Try.f20 0) (b := 0) (by kernel_rfl) (by kernel_rfl) (by kernel_rfl) (by kernel_rfl) (fun Q h => r10_NewL_loop a0 hp0 hp1 (by first | assumption | omega | (simp only [List.length_cons, List.length_nil, List.length_append]; omega)) ⟨0, by first | exact Nat.zero_le _ | (show 0 ≤ a0.length; omega) | (show 0 ≤ a0.length; exact ⟨Nat.zero_le _, by assumption⟩) | (show 0 ≤ a0.length; simp)⟩ Q h)) (r10_NewR a0) (by kernel_rfl) (by kernel_rfl) (by kernel_rfl) ?_
 unfold r10_NewR
 refine ⟨fun h0 => ?_, fun h0 => ?_⟩
 · have hF : Z35 a0 = (false, default, default, default, default) := by first | exact (Z11 h0 rfl) | simp only [Z35, h0, cond_true, cond_false]
   exact absurd hfl (by rw [hF]; simp)
 · refine ⟨fun h1 => ?_, fun h1 => ?_⟩
   · have hF : Z35 a0 = (false, default, default, default, default) := by first | exact (Z3 h0 (Z11 h1 rfl)) | simp only [Z35, h0, h1, cond_true, cond_false]
     exact absurd hfl (by rw [hF]; simp)
   · refine ⟨Z2 (by (try simp only [Bool.cond_true_left, Bool.or_eq_false_iff, decide_eq_false_iff_not] at h0); unfold Z16 maxLen; simp only [List.length_cons, List.length_nil]; omega) (Z7), ?_⟩
     have hF : Z35 a0 = (true, ([] ++ a0), [], [], []) := by first | exact (Z3 h0 (Z3 h1 rfl)) | simp only [Z35, h0, h1, cond_true, cond_false]
     exact ⟨_, ((Turn.ownNil 0 1 2 .vol rfl rfl (by simp [hset, oM, oV])).trans (Turn.ownNil 0 2 3 .snap rfl rfl (by simp [hset, oM, oV]))).trans (Turn.ownNil 0 3 4 .done rfl rfl (by simp [hset, oM, oV])), trivial, .inl (by (try rw [hF]); kernel_rfl), by (try rw [hF]); kernel_rfl⟩
noncomputable def r10_NewA_fact : Fact Try.prog := Z4f 20 Try.f20 (by kernel_rfl) rfl (by kernel_rfl) [.c (.coll .zone)] [] false (fun t u => .ptr 0 0) (fun t u => (.cells 106 [.vec 1, .vec 2, .vec 3, .vec 4] :: oV ((Z35 t.1).2.1) ((Z35 t.1).2.2.1) ((Z35 t.1).2.2.2.1) ((Z35 t.1).2.2.2.2) [])) (fun t u => [t.1.length < 4611686018427387904, ∀ z ∈ t.1, z.name.size < 4611686018427387904, (Z35 t.1).1 = true])
 (nofun) (fun t u => by kernel_rfl) (fun t u => by kernel_rfl) (fun t u h => r10_NewF_trA t.1 (h _ mS) (h _ (mN mS)) (h _ (mN (mN mS))))
end Go.Proofs.Ytpffbkbadnhmmaa
