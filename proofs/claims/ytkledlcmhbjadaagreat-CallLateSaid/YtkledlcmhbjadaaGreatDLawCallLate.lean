/- The law CallLate. -/
import Derived.Test.YtkledlcmhbjadaaGreatDPLY
import Derived.Test.YtkledlcmhbjadaaGreatDCallAlike
set_option linter.unusedVariables false
set_option linter.unusedSimpArgs false
set_option maxRecDepth 100000
namespace Go.Proofs.YtkledlcmhbjadaaGreat
open Go Go.Eng
noncomputable def Z251 : Env := Z65 (P := Tryz.prog) [] [] [] ckf
def Z4f (a0 : XCall) (a1 : XCall) : Bool :=
 cond (decide (a0.target = a1.target)) ((cond (a0.verb == (6 : Int)) true (a0.verb == (7 : Int))) == (cond (a1.verb == (6 : Int)) true (a1.verb == (7 : Int)))) false
def Z156 (a0 : XCall) (a1 : XCall) : RT :=
 (.leaf .ret ⟨Za 29 [(4, .bool (cond (decide (a0.target = a1.target)) ((cond (a0.verb == (6 : Int)) true (a0.verb == (7 : Int))) == (cond (a1.verb == (6 : Int)) true (a1.verb == (7 : Int)))) false))], []⟩ [])
theorem Z1ce (a0 : XCall) (a1 : XCall)  : Tr Tryz.prog 0 (Z3c Tryz.f8) (Z27 Tryz.f8 [.agg (cc a0), .agg (cc a1)] []) (Z48 Tryz.prog Tryz.f8 (.bool (Z4f a0 a1)) []) := by
 refine Z2f (kok _ _ _ _ _ _) (E := Z251) (L := Z32) 60 9999 Z14.none (Z156 a0 a1) (by kernel_rfl) (by kernel_rfl) (by kernel_rfl) ?_
 unfold Z156
 exact ⟨trivial, .inl (by kernel_rfl), by kernel_rfl⟩
noncomputable def Z1b5 : Fact Tryz.prog := Z4b 8 Tryz.f8 (by kernel_rfl) rfl (by kernel_rfl) [.st .call, .st .call] [] true (fun t u => .bool (Z4f t.1 t.2.1)) (fun t u => []) (fun t u => [])
 (fun _ _ _ => rfl) (fun t u => by kernel_rfl) (fun t u => by kernel_rfl) (fun t u h => Z1ce t.1 t.2.1 )
noncomputable def Z1fc : Env := Z65 (P := Tryz.prog) [] [] [] ckf
def Z57  : List XDeed2 → Bool
 | [] => false
 | o :: r => cond (cond (cond (!((o.o) == (0 : Int))) (!((o.o) == (2 : Int))) false) true (o.again))
  true
  (Z57 r)
def Zb4 (a0 : List XDeed2) (i : Nat) : St :=
 ⟨Za 34 [(0, .coll ⟨.deed2, a0⟩), (3, .int .i64 (i : Int))], []⟩
def Z12f (a0 : List XDeed2) (i : Nat) : RT :=
 (.ask (decide ((i : Int) < (a0.length : Int)))
   (.need [0 ≤ (i : Int) ∧ (i : Int) < (a0.length : Int)]
     (.need [((!(((a0.getD i default).o) == (0 : Int))) = true) → (0 ≤ (i : Int) ∧ (i : Int) < (a0.length : Int))]
       (.need [((cond (!(((a0.getD i default).o) == (0 : Int))) (!(((a0.getD i default).o) == (2 : Int))) false) = false) → (0 ≤ (i : Int) ∧ (i : Int) < (a0.length : Int))]
         (.ask (cond (cond (!(((a0.getD i default).o) == (0 : Int))) (!(((a0.getD i default).o) == (2 : Int))) false) true ((a0.getD i default).again))
           (.leaf .ret ⟨Za 34 [(2, .bool false)], []⟩ [])
           (.leaf .normal ⟨Za 34 [(0, .coll ⟨.deed2, a0⟩), (3, .int .i64 (IntKind.i64.wrap ((i : Int) + (1 : Int))))], []⟩ [])))))
   (.leaf (.exit 0) ⟨Za 34 [(0, .coll ⟨.deed2, a0⟩)], []⟩ []))
def Z86 (a0 : List XDeed2) (i : Nat) : Tree :=
 .ask (Z57 (a0.drop i)) (.leaf .ret ⟨Za 34 [(2, .bool false)], []⟩) (.leaf (.exit 0) ⟨Za 34 [(0, .coll ⟨.deed2, a0⟩)], []⟩)
theorem Z209 (a0 : List XDeed2) (hp0 : a0.length < 4611686018427387904) (hlen : a0.length < 4611686018427387904) (z : { z : Nat // z ≤ a0.length }) (Q : Exit → St → Prop) (h : (Z86 a0 z.1).All Q) : Tr Tryz.prog 0 (.loop (Z47 Tryz.f11 0)) (Zb4 a0 z.1) Q := by
 refine Z60 (kok _ _ _ _ _ _) (E := Z1fc) (ι := { z : Nat // z ≤ a0.length }) 60 0 (fun _ => Z32) (fun z => Zb4 a0 z.1) (fun z => Z86 a0 z.1) (fun z => Z12f a0 z.1) (fun z => a0.length - z.1) (fun _ => Z14.none) (fun z => by obtain ⟨i, hi⟩ := z; kernel_rfl) (fun z => by obtain ⟨i, hi⟩ := z; kernel_rfl) (fun z => by obtain ⟨i, hi⟩ := z; kernel_rfl) ?_ z Q h
 rintro ⟨i, hi⟩ Q hT
 replace hT : (Z86 a0 i).All Q := hT
 replace hi : i ≤ a0.length := hi
 show (Z12f a0 i).All _
 unfold Z12f
 refine ⟨fun h0 => ?_, fun h0 => ?_⟩
 · have hlt : i < a0.length := by simpa using h0
   have hd := Z64 hlt
   have hw := Z4e (i := i) (by omega)
   refine ⟨Z2 (by first | assumption | omega | ((try intro _); (try simp only [decide_eq_true_eq, decide_eq_false_iff_not, Bool.cond_false_right, Bool.cond_true_right, Bool.cond_true_left, Bool.cond_false_left, Bool.and_eq_true, Bool.or_eq_true, Bool.not_eq_true', Z18, maxLen, List.length_cons, List.length_nil, List.length_append, Z44] at *); omega)) (Z9), ?_⟩
   refine ⟨Z2 (by first | assumption | omega | ((try intro _); (try simp only [decide_eq_true_eq, decide_eq_false_iff_not, Bool.cond_false_right, Bool.cond_true_right, Bool.cond_true_left, Bool.cond_false_left, Bool.and_eq_true, Bool.or_eq_true, Bool.not_eq_true', Z18, maxLen, List.length_cons, List.length_nil, List.length_append, Z44] at *); omega)) (Z9), ?_⟩
   refine ⟨Z2 (by first | assumption | omega | ((try intro _); (try simp only [decide_eq_true_eq, decide_eq_false_iff_not, Bool.cond_false_right, Bool.cond_true_right, Bool.cond_true_left, Bool.cond_false_left, Bool.and_eq_true, Bool.or_eq_true, Bool.not_eq_true', Z18, maxLen, List.length_cons, List.length_nil, List.length_append, Z44] at *); omega)) (Z9), ?_⟩
   refine ⟨fun h1 => ?_, fun h1 => ?_⟩
   · have hF : Z57 (a0.drop i) = true := by rw [hd]; first | exact (Z12 h1 rfl) | simp only [Z57, h0, h1, cond_true, cond_false]
     unfold Z86 at hT
     rw [hF] at hT
     exact hT.1 rfl
   · have hF : Z57 (a0.drop i) = Z57 (a0.drop (i + 1)) := by rw [hd]; first | exact (Z3 h1 rfl) | simp only [Z57, h0, h1, cond_true, cond_false]
     refine ⟨⟨(i + 1), by show (i + 1) ≤ a0.length; omega⟩, by show a0.length - (i + 1) < a0.length - i; omega, ?_, ?_⟩
     · show _ = Zb4 a0 (i + 1)
       unfold Zb4
       simp only [hw]
     · show (Z86 a0 (i + 1)).All Q
       unfold Z86 at hT ⊢
       rw [hF] at hT
       exact hT
 · have hge : ¬ i < a0.length := by simpa using h0
   have hd : a0.drop i = [] := List.drop_eq_nil_of_le (by omega)
   have hF : Z57 (a0.drop i) = false := by rw [hd]; first | exact rfl | simp only [Z57, h0, cond_true, cond_false]
   unfold Z86 at hT
   rw [hF] at hT
   exact hT.2 rfl
def Z66 (a0 : List XDeed2) : Bool :=
 cond (Z57 a0)
  false
  (decide ((a0.length : Int) ≤ (50 : Int)))
def Z231 (a0 : List XDeed2) : RT :=
 (.ask (Z57 a0)
   (.leaf .ret ⟨Za 34 [(2, .bool false)], []⟩ [])
   (.leaf .ret ⟨Za 34 [(2, .bool (decide ((a0.length : Int) ≤ (50 : Int))))], []⟩ []))
theorem w11_doneOneF_tr (a0 : List XDeed2) (hp0 : a0.length < 4611686018427387904) : Tr Tryz.prog 0 (Z3c Tryz.f11) (Z27 Tryz.f11 [.coll ⟨.deed2, a0⟩] []) (Z48 Tryz.prog Tryz.f11 (.bool (Z66 a0)) []) := by
 refine Z2f (kok _ _ _ _ _ _) (E := Z1fc) (L := (Z5f [(0, Zb4 a0 0, [], Z86 a0 0)])) 60 9999 (Z14.one (g := Z47 Tryz.f11 0) (b := 0) (by kernel_rfl) (by kernel_rfl) (by kernel_rfl) (by kernel_rfl) (fun Q h => Z209 a0 hp0 (by first | assumption | omega | (simp only [List.length_cons, List.length_nil, List.length_append]; omega)) ⟨0, by first | exact Nat.zero_le _ | (show 0 ≤ a0.length; omega) | (show 0 ≤ a0.length; exact ⟨Nat.zero_le _, by assumption⟩) | (show 0 ≤ a0.length; simp)⟩ Q h)) (Z231 a0) (by kernel_rfl) (by kernel_rfl) (by kernel_rfl) ?_
 unfold Z231
 refine ⟨fun h0 => ?_, fun h0 => ?_⟩
 · have hF : Z66 a0 = false := by first | exact (Z12 h0 rfl) | simp only [Z66, h0, cond_true, cond_false]
   exact ⟨trivial, .inl (by (try rw [hF]); kernel_rfl), by (try rw [hF]); kernel_rfl⟩
 · have hF : Z66 a0 = (decide ((a0.length : Int) ≤ (50 : Int))) := by first | exact (Z3 h0 rfl) | simp only [Z66, h0, cond_true, cond_false]
   exact ⟨trivial, .inl (by (try rw [hF]); kernel_rfl), by (try rw [hF]); kernel_rfl⟩
noncomputable def Z244 : Fact Tryz.prog := Z4b 11 Tryz.f11 (by kernel_rfl) rfl (by kernel_rfl) [.c (.coll .deed2)] [] true (fun t u => .bool (Z66 t.1)) (fun t u => []) (fun t u => [t.1.length < 4611686018427387904])
 (fun _ _ _ => rfl) (fun t u => by kernel_rfl) (fun t u => by kernel_rfl) (fun t u h => w11_doneOneF_tr t.1 (h _ mS))
noncomputable def Z112 : Env := Z65 (P := Tryz.prog) [w11_play_fact, w11_live_fact, Zdb, Z1b5, Z17f, Zc3, Z244, w11_alike_fact] [] [] ckf true
def Z49 (a0 : List XDeed2) (i : Nat) : Nat → Bool → Nat → Bool
 | 0, v1_3, i1 => v1_3
 | n + 1, v1_3, i1 => Z49 a0 i n (cond v1_3 true (cond (Z4f ((Z1a ((Z1 a0).2.1) ((Z1 a0).2.2.2.1) ((Z1 a0).2.2.2.2.1) ((Z1 a0).2.2.2.2.2.1) ((Z1 a0).2.2.2.2.2.2.1)).getD i default) ((Z1a ((Z1 a0).2.1) ((Z1 a0).2.2.2.1) ((Z1 a0).2.2.2.2.1) ((Z1 a0).2.2.2.2.2.1) ((Z1 a0).2.2.2.2.2.2.1)).getD i1 default)) (decide ((((Z1a ((Z1 a0).2.1) ((Z1 a0).2.2.2.1) ((Z1 a0).2.2.2.2.1) ((Z1 a0).2.2.2.2.2.1) ((Z1 a0).2.2.2.2.2.2.1)).getD i1 default).num) > (((Z1a ((Z1 a0).2.1) ((Z1 a0).2.2.2.1) ((Z1 a0).2.2.2.2.1) ((Z1 a0).2.2.2.2.2.1) ((Z1 a0).2.2.2.2.2.2.1)).getD i default).num))) false)) (i1 + 1)
def Z9d (a0 : List XDeed2) (i : Nat) (v4 : LA) (v5 : LB) (v6 : LC) (v7 : LD) (v1_3 : Bool) (i1 : Nat) : St :=
 ⟨Za 90 [(0, .coll ⟨.deed2, a0⟩), (3, .ptr 0 0), (6, .coll ⟨.call, Z1a ((Z1 a0).2.1) ((Z1 a0).2.2.2.1) ((Z1 a0).2.2.2.2.1) ((Z1 a0).2.2.2.2.2.1) ((Z1 a0).2.2.2.2.2.2.1)⟩), (7, .int .i64 (i : Int)), (8, .bool v1_3), (9, .int .i64 (i1 : Int))], (.cells 61 [.ptr 1 0, .vec 2] :: .cells 87 [.map 3, .map 4, .map 5, .map 6] :: .vec false ⟨.call, (Z1 a0).2.1⟩ :: oM v4 v5 v6 v7 [])⟩
abbrev kCl1 (a0 : List XDeed2) := (Z1a ((Z1 a0).2.1) ((Z1 a0).2.2.2.1) ((Z1 a0).2.2.2.2.1) ((Z1 a0).2.2.2.2.2.1) ((Z1 a0).2.2.2.2.2.2.1))
def Zec (a0 : List XDeed2) (i : Nat) (v4 : LA) (v5 : LB) (v6 : LC) (v7 : LD) (v1_3 : Bool) (i1 : Nat) : RT :=
 (.ask (decide ((i1 : Int) < (i : Int)))
   (.need [(v1_3 = false) → (0 ≤ (i : Int) ∧ (i : Int) < ((kCl1 a0).length : Int)), (v1_3 = false) → (0 ≤ (i1 : Int) ∧ (i1 : Int) < ((kCl1 a0).length : Int)), ((v1_3 = false) ∧ (Z4f ((kCl1 a0).getD i default) ((kCl1 a0).getD i1 default)) = true) → (0 ≤ (i1 : Int) ∧ (i1 : Int) < ((kCl1 a0).length : Int)), ((v1_3 = false) ∧ (Z4f ((kCl1 a0).getD i default) ((kCl1 a0).getD i1 default)) = true) → (0 ≤ (i : Int) ∧ (i : Int) < ((kCl1 a0).length : Int))]
     (.leaf .normal ⟨Za 90 [(0, .coll ⟨.deed2, a0⟩), (3, .ptr 0 0), (6, .coll ⟨.call, Z1a ((Z1 a0).2.1) ((Z1 a0).2.2.2.1) ((Z1 a0).2.2.2.2.1) ((Z1 a0).2.2.2.2.2.1) ((Z1 a0).2.2.2.2.2.2.1)⟩), (7, .int .i64 (i : Int)), (8, .bool (cond v1_3 true (cond (Z4f ((kCl1 a0).getD i default) ((kCl1 a0).getD i1 default)) (decide ((((kCl1 a0).getD i1 default).num) > (((kCl1 a0).getD i default).num))) false))), (9, .int .i64 (IntKind.i64.wrap ((i1 : Int) + (1 : Int))))], (.cells 61 [.ptr 1 0, .vec 2] :: .cells 87 [.map 3, .map 4, .map 5, .map 6] :: .vec false ⟨.call, (Z1 a0).2.1⟩ :: oM v4 v5 v6 v7 [])⟩ []))
   (.leaf (.exit 2) ⟨Za 90 [(0, .coll ⟨.deed2, a0⟩), (3, .ptr 0 0), (6, .coll ⟨.call, Z1a ((Z1 a0).2.1) ((Z1 a0).2.2.2.1) ((Z1 a0).2.2.2.2.1) ((Z1 a0).2.2.2.2.2.1) ((Z1 a0).2.2.2.2.2.2.1)⟩), (7, .int .i64 (i : Int)), (8, .bool v1_3)], (.cells 61 [.ptr 1 0, .vec 2] :: .cells 87 [.map 3, .map 4, .map 5, .map 6] :: .vec false ⟨.call, (Z1 a0).2.1⟩ :: oM v4 v5 v6 v7 [])⟩ []))
def Z82 (a0 : List XDeed2) (i : Nat) (v4 : LA) (v5 : LB) (v6 : LC) (v7 : LD) (v1_3 : Bool) (i1 : Nat) : Tree :=
 .leaf (.exit 2) ⟨Za 90 [(0, .coll ⟨.deed2, a0⟩), (3, .ptr 0 0), (6, .coll ⟨.call, Z1a ((Z1 a0).2.1) ((Z1 a0).2.2.2.1) ((Z1 a0).2.2.2.2.1) ((Z1 a0).2.2.2.2.2.1) ((Z1 a0).2.2.2.2.2.2.1)⟩), (7, .int .i64 (i : Int)), (8, .bool (Z49 a0 i (((i : Int).toNat) - i1) v1_3 i1))], (.cells 61 [.ptr 1 0, .vec 2] :: .cells 87 [.map 3, .map 4, .map 5, .map 6] :: .vec false ⟨.call, (Z1 a0).2.1⟩ :: oM v4 v5 v6 v7 [])⟩
theorem Z1b6 (a0 : List XDeed2) (i : Nat) (v4 : LA) (v5 : LB) (v6 : LC) (v7 : LD) (hp0 : ∀ x ∈ a0, D2 x) (hp1 : a0.length < 4611686018427387904) (hlen : ((i : Int).toNat) < 4611686018427387904) (hn0 : 0 ≤ (i : Int) ∧ (i : Int) < ((kCl1 a0).length : Int)) (hn1 : i < 50) (z : { z : Bool × Nat // z.2 ≤ ((i : Int).toNat) }) (Q : Exit → St → Prop) (h : (Z82 a0 i v4 v5 v6 v7 z.1.1 z.1.2).All Q) : Tr Tryz.prog 0 (.loop (Z221 (Z47 Tryz.f3 0) 0 0)) (Z9d a0 i v4 v5 v6 v7 z.1.1 z.1.2) Q := by
 refine Z60 (kok _ _ _ _ _ _) (E := Z112) (ι := { z : Bool × Nat // z.2 ≤ ((i : Int).toNat) }) 60 2 (fun _ => Z32) (fun z => Z9d a0 i v4 v5 v6 v7 z.1.1 z.1.2) (fun z => Z82 a0 i v4 v5 v6 v7 z.1.1 z.1.2) (fun z => Zec a0 i v4 v5 v6 v7 z.1.1 z.1.2) (fun z => ((i : Int).toNat) - z.1.2) (fun _ => Z14.none) (fun z => by obtain ⟨⟨v1_3, i1⟩, hi⟩ := z; kernel_rfl) (fun z => by obtain ⟨⟨v1_3, i1⟩, hi⟩ := z; kernel_rfl) (fun z => by obtain ⟨⟨v1_3, i1⟩, hi⟩ := z; kernel_rfl) ?_ z Q h
 rintro ⟨⟨v1_3, i1⟩, hi⟩ Q hT
 replace hT : (Z82 a0 i v4 v5 v6 v7 v1_3 i1).All Q := hT
 replace hi : i1 ≤ ((i : Int).toNat) := hi
 show (Zec a0 i v4 v5 v6 v7 v1_3 i1).All _
 unfold Zec
 refine ⟨fun h0 => ?_, fun h0 => ?_⟩
 · have hlt : i1 < ((i : Int).toNat) := by have h9 := h0; simp only [decide_eq_true_eq, decide_eq_false_iff_not] at h9; omega
   have hd : ((i : Int).toNat) - i1 = (((i : Int).toNat) - (i1 + 1)) + 1 := by omega
   have hw := Z4e (i := i1) (by omega)
   refine ⟨(by (iterate 4 refine Z2 (by (try refine fun (_ : _ = _) => ?_); (try refine fun (_ : _ ∧ _) => ?_); first | exact hn0 | (have h9 := hn0; constructor <;> omega) | exact ⟨Int.natCast_nonneg _, Int.ofNat_lt.2 (Z121 hp0 h0).1⟩) ?_); exact Z9), ?_⟩
   have hF : Z49 a0 i (((i : Int).toNat) - i1) v1_3 i1 = Z49 a0 i (((i : Int).toNat) - (i1 + 1)) (cond v1_3 true (cond (Z4f ((kCl1 a0).getD i default) ((kCl1 a0).getD i1 default)) (decide ((((kCl1 a0).getD i1 default).num) > (((kCl1 a0).getD i default).num))) false)) (i1 + 1) := by rw [hd]; first | exact rfl | simp only [Z49, h0, cond_true, cond_false]
   refine ⟨⟨(cond v1_3 true (cond (Z4f ((kCl1 a0).getD i default) ((kCl1 a0).getD i1 default)) (decide ((((kCl1 a0).getD i1 default).num) > (((kCl1 a0).getD i default).num))) false), (i1 + 1)), by show (i1 + 1) ≤ ((i : Int).toNat); omega⟩, by show ((i : Int).toNat) - (i1 + 1) < ((i : Int).toNat) - i1; omega, ?_, ?_⟩
   · show _ = Z9d a0 i v4 v5 v6 v7 (cond v1_3 true (cond (Z4f ((kCl1 a0).getD i default) ((kCl1 a0).getD i1 default)) (decide ((((kCl1 a0).getD i1 default).num) > (((kCl1 a0).getD i default).num))) false)) (i1 + 1)
     unfold Z9d
     simp only [hw]
   · show (Z82 a0 i v4 v5 v6 v7 (cond v1_3 true (cond (Z4f ((kCl1 a0).getD i default) ((kCl1 a0).getD i1 default)) (decide ((((kCl1 a0).getD i1 default).num) > (((kCl1 a0).getD i default).num))) false)) (i1 + 1)).All Q
     unfold Z82 at hT ⊢
     rw [hF] at hT
     exact hT
 · have hge : ¬ i1 < ((i : Int).toNat) := by have h9 := h0; simp only [decide_eq_true_eq, decide_eq_false_iff_not] at h9; omega
   have hd : ((i : Int).toNat) - i1 = 0 := by omega
   have hF : Z49 a0 i (((i : Int).toNat) - i1) v1_3 i1 = v1_3 := by rw [hd]; first | exact rfl | simp only [Z49, h0, cond_true, cond_false]
   unfold Z82 at hT
   rw [hF] at hT
   exact hT
def Z34 (a0 : List XDeed2) : Nat → Nat → LA → LB → LC → LD → Bool × LA × LB × LC × LD
 | 0, _, _, _, _, _ => (default, default, default, default, default)
 | n + 1, i, v4, v5, v6, v7 => cond (decide ((i : Int) < ((Z1a ((Z1 a0).2.1) ((Z1 a0).2.2.2.1) ((Z1 a0).2.2.2.2.1) ((Z1 a0).2.2.2.2.2.1) ((Z1 a0).2.2.2.2.2.2.1)).length : Int)))
  (cond (cond (!(((Z4 (i : Int) ((Z1 a0).2.1) v4 v5 v6 v7).1) == (0 : Int))) true (cond (cond (Z49 a0 i (((i : Int).toNat)) false 0) (Z66 a0) false) (!(Zaf ((Z1 a0).2.1) ((Z13 ((Z1 a0).2.1) v4 v5 v6 v7).1) ((Z4 (i : Int) ((Z1 a0).2.1) v4 v5 v6 v7).2.1) ((Z4 (i : Int) ((Z1 a0).2.1) v4 v5 v6 v7).2.2.1) ((Z4 (i : Int) ((Z1 a0).2.1) v4 v5 v6 v7).2.2.2.1) ((Z4 (i : Int) ((Z1 a0).2.1) v4 v5 v6 v7).2.2.2.2) ((Z13 ((Z1 a0).2.1) v4 v5 v6 v7).2.1) ((Z13 ((Z1 a0).2.1) v4 v5 v6 v7).2.2.1) ((Z13 ((Z1 a0).2.1) v4 v5 v6 v7).2.2.2.1) ((Z13 ((Z1 a0).2.1) v4 v5 v6 v7).2.2.2.2))) false))
    (true, default, default, default, default)
    (Z34 a0 n (i + 1) ((Z4 (i : Int) ((Z1 a0).2.1) v4 v5 v6 v7).2.1) ((Z4 (i : Int) ((Z1 a0).2.1) v4 v5 v6 v7).2.2.1) ((Z4 (i : Int) ((Z1 a0).2.1) v4 v5 v6 v7).2.2.2.1) ((Z4 (i : Int) ((Z1 a0).2.1) v4 v5 v6 v7).2.2.2.2)))
  (false, v4, v5, v6, v7)
def Za6 (a0 : List XDeed2) (i : Nat) (v4 : LA) (v5 : LB) (v6 : LC) (v7 : LD) (g : Nat) : St :=
 ⟨Za 90 [(0, .coll ⟨.deed2, a0⟩), (3, .ptr 0 0), (6, .coll ⟨.call, Z1a ((Z1 a0).2.1) ((Z1 a0).2.2.2.1) ((Z1 a0).2.2.2.2.1) ((Z1 a0).2.2.2.2.2.1) ((Z1 a0).2.2.2.2.2.2.1)⟩), (7, .int .i64 (i : Int))], (.cells 61 [.ptr 1 0, .vec 2] :: .cells 87 [.map 3, .map 4, .map 5, .map 6] :: .vec false ⟨.call, (Z1 a0).2.1⟩ :: oM v4 v5 v6 v7 [])⟩
abbrev kCl2 (i : Nat) (a0 : List XDeed2) (v4 : LA) (v5 : LB) (v6 : LC) (v7 : LD) := (Z4 (i : Int) ((Z1 a0).2.1) v4 v5 v6 v7)
abbrev kCl3 (a0 : List XDeed2) (i : Nat) := (cond (Z49 a0 i (((i : Int).toNat)) false 0) (Z66 a0) false)
def Z10d (a0 : List XDeed2) (i : Nat) (v4 : LA) (v5 : LB) (v6 : LC) (v7 : LD) (g : Nat) : RT :=
 (.ask (decide ((i : Int) < ((kCl1 a0).length : Int)))
   (.need [0 ≤ (i : Int) ∧ (i : Int) < ((kCl1 a0).length : Int), i < 50]
     (.need [((Z1 a0).2.1).length ≤ 1000000]
       (.need [∀ x ∈ ((Z1 a0).2.1), CS x]
         (.need [(((!(((kCl2 i a0 v4 v5 v6 v7).1) == (0 : Int))) = false) ∧ (Z49 a0 i (((i : Int).toNat)) false 0) = true) → (a0.length < 4611686018427387904)]
           (.need [(((!(((kCl2 i a0 v4 v5 v6 v7).1) == (0 : Int))) = false) ∧ (kCl3 a0 i) = true) → (VB ((kCl2 i a0 v4 v5 v6 v7).2.2.1)), (((!(((kCl2 i a0 v4 v5 v6 v7).1) == (0 : Int))) = false) ∧ (kCl3 a0 i) = true) → (VB ((Z13 ((Z1 a0).2.1) v4 v5 v6 v7).2.2.1)), (((!(((kCl2 i a0 v4 v5 v6 v7).1) == (0 : Int))) = false) ∧ (kCl3 a0 i) = true) → (NK ((kCl2 i a0 v4 v5 v6 v7).2.2.2.1)), (((!(((kCl2 i a0 v4 v5 v6 v7).1) == (0 : Int))) = false) ∧ (kCl3 a0 i) = true) → (NK ((Z13 ((Z1 a0).2.1) v4 v5 v6 v7).2.2.2.1)), (((!(((kCl2 i a0 v4 v5 v6 v7).1) == (0 : Int))) = false) ∧ (kCl3 a0 i) = true) → ((Z61 ((kCl2 i a0 v4 v5 v6 v7).2.1) ((kCl2 i a0 v4 v5 v6 v7).2.2.1) ((kCl2 i a0 v4 v5 v6 v7).2.2.2.1) ((kCl2 i a0 v4 v5 v6 v7).2.2.2.2)).length ≤ 1000), (((!(((kCl2 i a0 v4 v5 v6 v7).1) == (0 : Int))) = false) ∧ (kCl3 a0 i) = true) → (∀ v ∈ Z61 ((kCl2 i a0 v4 v5 v6 v7).2.1) ((kCl2 i a0 v4 v5 v6 v7).2.2.1) ((kCl2 i a0 v4 v5 v6 v7).2.2.2.1) ((kCl2 i a0 v4 v5 v6 v7).2.2.2.2), v.nodes.length ≤ 1000), (((!(((kCl2 i a0 v4 v5 v6 v7).1) == (0 : Int))) = false) ∧ (kCl3 a0 i) = true) → ((Z9c ((kCl2 i a0 v4 v5 v6 v7).2.1) ((kCl2 i a0 v4 v5 v6 v7).2.2.1) ((kCl2 i a0 v4 v5 v6 v7).2.2.2.1) ((kCl2 i a0 v4 v5 v6 v7).2.2.2.2)).length ≤ 1000)]
             (.ask (cond (!(((kCl2 i a0 v4 v5 v6 v7).1) == (0 : Int))) true (cond (kCl3 a0 i) (!(Zaf ((Z1 a0).2.1) ((Z13 ((Z1 a0).2.1) v4 v5 v6 v7).1) ((kCl2 i a0 v4 v5 v6 v7).2.1) ((kCl2 i a0 v4 v5 v6 v7).2.2.1) ((kCl2 i a0 v4 v5 v6 v7).2.2.2.1) ((kCl2 i a0 v4 v5 v6 v7).2.2.2.2) ((Z13 ((Z1 a0).2.1) v4 v5 v6 v7).2.1) ((Z13 ((Z1 a0).2.1) v4 v5 v6 v7).2.2.1) ((Z13 ((Z1 a0).2.1) v4 v5 v6 v7).2.2.2.1) ((Z13 ((Z1 a0).2.1) v4 v5 v6 v7).2.2.2.2))) false))
               (.leaf .ret ⟨Za 90 [(2, .bool false)], []⟩ [])
               (.leaf .normal ⟨Za 90 [(0, .coll ⟨.deed2, a0⟩), (3, .ptr 0 0), (6, .coll ⟨.call, Z1a ((Z1 a0).2.1) ((Z1 a0).2.2.2.1) ((Z1 a0).2.2.2.2.1) ((Z1 a0).2.2.2.2.2.1) ((Z1 a0).2.2.2.2.2.2.1)⟩), (7, .int .i64 (IntKind.i64.wrap ((i : Int) + (1 : Int))))], (.cells 61 [.ptr 1 0, .vec 2] :: .cells 87 [.map 3, .map 4, .map 5, .map 6] :: .vec false ⟨.call, (Z1 a0).2.1⟩ :: oM ((kCl2 i a0 v4 v5 v6 v7).2.1) ((kCl2 i a0 v4 v5 v6 v7).2.2.1) ((kCl2 i a0 v4 v5 v6 v7).2.2.2.1) ((kCl2 i a0 v4 v5 v6 v7).2.2.2.2) [])⟩ [])))))))
   (.leaf (.exit 0) ⟨Za 90 [(3, .ptr 0 0), (6, .coll ⟨.call, Z1a ((Z1 a0).2.1) ((Z1 a0).2.2.2.1) ((Z1 a0).2.2.2.2.1) ((Z1 a0).2.2.2.2.2.1) ((Z1 a0).2.2.2.2.2.2.1)⟩)], (.cells 61 [.ptr 1 0, .vec 2] :: .cells 87 [.map 3, .map 4, .map 5, .map 6] :: .vec false ⟨.call, (Z1 a0).2.1⟩ :: oM v4 v5 v6 v7 [])⟩ []))
def Z7d (a0 : List XDeed2) (i : Nat) (v4 : LA) (v5 : LB) (v6 : LC) (v7 : LD) (g : Nat) : Tree :=
 .ask ((Z34 a0 (g + 1) i v4 v5 v6 v7).1) (.leaf .ret ⟨Za 90 [(2, .bool false)], []⟩) (.leaf (.exit 0) ⟨Za 90 [(3, .ptr 0 0), (6, .coll ⟨.call, Z1a ((Z1 a0).2.1) ((Z1 a0).2.2.2.1) ((Z1 a0).2.2.2.2.1) ((Z1 a0).2.2.2.2.2.1) ((Z1 a0).2.2.2.2.2.2.1)⟩)], (.cells 61 [.ptr 1 0, .vec 2] :: .cells 87 [.map 3, .map 4, .map 5, .map 6] :: .vec false ⟨.call, (Z1 a0).2.1⟩ :: oM ((Z34 a0 (g + 1) i v4 v5 v6 v7).2.1) ((Z34 a0 (g + 1) i v4 v5 v6 v7).2.2.1) ((Z34 a0 (g + 1) i v4 v5 v6 v7).2.2.2.1) ((Z34 a0 (g + 1) i v4 v5 v6 v7).2.2.2.2) [])⟩)
theorem Z1d0 (a0 : List XDeed2) (hp0 : ∀ x ∈ a0, D2 x) (hp1 : a0.length < 4611686018427387904) (z : { z : Nat × LA × LB × LC × LD × Nat // z.1 + z.2.2.2.2.2 = 50 ∧ PC (50 + z.1) ((Z1 a0).2.1) z.2.1 z.2.2.1 z.2.2.2.1 z.2.2.2.2.1 }) (Q : Exit → St → Prop) (h : (Z7d a0 z.1.1 z.1.2.1 z.1.2.2.1 z.1.2.2.2.1 z.1.2.2.2.2.1 z.1.2.2.2.2.2).All Q) : Tr Tryz.prog 0 (.loop (Z47 Tryz.f3 0)) (Za6 a0 z.1.1 z.1.2.1 z.1.2.2.1 z.1.2.2.2.1 z.1.2.2.2.2.1 z.1.2.2.2.2.2) Q := by
 refine Z60 (kok _ _ _ _ _ _) (E := Z112) (ι := { z : Nat × LA × LB × LC × LD × Nat // z.1 + z.2.2.2.2.2 = 50 ∧ PC (50 + z.1) ((Z1 a0).2.1) z.2.1 z.2.2.1 z.2.2.2.1 z.2.2.2.2.1 }) 60 0 (fun z => Z5f [(2, Z9d a0 z.1.1 z.1.2.1 z.1.2.2.1 z.1.2.2.2.1 z.1.2.2.2.2.1 false 0, [], .need [0 ≤ (z.1.1 : Int) ∧ (z.1.1 : Int) < ((kCl1 a0).length : Int), z.1.1 < 50] (Z82 a0 z.1.1 z.1.2.1 z.1.2.2.1 z.1.2.2.2.1 z.1.2.2.2.2.1 false 0))]) (fun z => Za6 a0 z.1.1 z.1.2.1 z.1.2.2.1 z.1.2.2.2.1 z.1.2.2.2.2.1 z.1.2.2.2.2.2) (fun z => Z7d a0 z.1.1 z.1.2.1 z.1.2.2.1 z.1.2.2.2.1 z.1.2.2.2.2.1 z.1.2.2.2.2.2) (fun z => Z10d a0 z.1.1 z.1.2.1 z.1.2.2.1 z.1.2.2.2.1 z.1.2.2.2.2.1 z.1.2.2.2.2.2) (fun z => z.1.2.2.2.2.2) (fun z => by obtain ⟨⟨i, v4, v5, v6, v7, g⟩, hi⟩ := z; exact Z14.one (g := Z221 (Z47 Tryz.f3 0) 0 0) (b := 2) (by kernel_rfl) (by kernel_rfl) (by kernel_rfl) (by kernel_rfl) (fun Q h => Z1b6 a0 i v4 v5 v6 v7 hp0 hp1 (by omega) (h.1 _ mS) (h.1 _ (mN mS)) ⟨(false, 0), by first | exact Nat.zero_le _ | (show 0 ≤ ((i : Int).toNat); omega) | (show 0 ≤ ((i : Int).toNat); exact ⟨Nat.zero_le _, by assumption⟩) | (show 0 ≤ ((i : Int).toNat); simp)⟩ Q h.2)) (fun z => by obtain ⟨⟨i, v4, v5, v6, v7, g⟩, hi⟩ := z; kernel_rfl) (fun z => by obtain ⟨⟨i, v4, v5, v6, v7, g⟩, hi⟩ := z; kernel_rfl) (fun z => by obtain ⟨⟨i, v4, v5, v6, v7, g⟩, hi⟩ := z; kernel_rfl) ?_ z Q h
 rintro ⟨⟨i, v4, v5, v6, v7, g⟩, hi⟩ Q hT
 replace hT : (Z7d a0 i v4 v5 v6 v7 g).All Q := hT
 replace hi : i + g = 50 ∧ PC (50 + i) ((Z1 a0).2.1) v4 v5 v6 v7 := hi
 show (Z10d a0 i v4 v5 v6 v7 g).All _
 unfold Z10d
 have hw := Z4e (i := i) (by omega)
 refine ⟨fun h0 => ?_, fun h0 => ?_⟩
 · refine ⟨Z2 (by (try refine fun (_ : _ = _) => ?_); (try refine fun (_ : _ ∧ _) => ?_); first | exact hn0 | (have h9 := hn0; constructor <;> omega) | exact ⟨Int.natCast_nonneg _, Int.ofNat_lt.2 (Z121 hp0 h0).1⟩) (Z2 (by (have hq := Z121 hp0 h0; omega)) (Z9)), ?_⟩
   refine ⟨Z2 (by (try refine fun (_ : _ = _) => ?_); (try refine fun (_ : _ ∧ _) => ?_); (try simp only [kCl1, kCl2, kCl3, kCl0]); exact PC.len (by (repeat (first | exact hi.2 | exact Zdd hp0 | apply Zbd | apply Z110))) (by first | omega | decide)) (Z9), ?_⟩
   refine ⟨Z2 (by (try refine fun (_ : _ = _) => ?_); (try refine fun (_ : _ ∧ _) => ?_); (try simp only [kCl1, kCl2, kCl3, kCl0]); exact PC.cs (by (repeat (first | exact hi.2 | exact Zdd hp0 | apply Zbd | apply Z110))) (by first | omega | decide)) (Z9), ?_⟩
   refine ⟨Z2 (by (try refine fun (_ : _ = _) => ?_); (try refine fun (_ : _ ∧ _) => ?_); exact hp1) (Z9), ?_⟩
   refine ⟨(by (iterate 2 refine Z2 (by (try refine fun (_ : _ = _) => ?_); (try refine fun (_ : _ ∧ _) => ?_); (try simp only [kCl1, kCl2, kCl3, kCl0]); exact PC.vb (by (repeat (first | exact hi.2 | exact Zdd hp0 | apply Zbd | apply Z110))) (by first | omega | decide)) ?_); (iterate 2 refine Z2 (by (try refine fun (_ : _ = _) => ?_); (try refine fun (_ : _ ∧ _) => ?_); (try simp only [kCl1, kCl2, kCl3, kCl0]); exact PC.nk (by (repeat (first | exact hi.2 | exact Zdd hp0 | apply Zbd | apply Z110))) (by first | omega | decide)) ?_); refine Z2 (by (try refine fun (_ : _ = _) => ?_); (try refine fun (_ : _ ∧ _) => ?_); (try simp only [kCl1, kCl2, kCl3, kCl0]); exact PC.vl (by (repeat (first | exact hi.2 | exact Zdd hp0 | apply Zbd | apply Z110))) (by first | omega | decide)) ?_; refine Z2 (by (try refine fun (_ : _ = _) => ?_); (try refine fun (_ : _ ∧ _) => ?_); (try simp only [kCl1, kCl2, kCl3, kCl0]); exact PC.vn (by (repeat (first | exact hi.2 | exact Zdd hp0 | apply Zbd | apply Z110))) (by first | omega | decide)) ?_; refine Z2 (by (try refine fun (_ : _ = _) => ?_); (try refine fun (_ : _ ∧ _) => ?_); (try simp only [kCl1, kCl2, kCl3, kCl0]); exact PC.sl (by (repeat (first | exact hi.2 | exact Zdd hp0 | apply Zbd | apply Z110))) (by first | omega | decide)) ?_; exact Z9), ?_⟩
   refine ⟨fun h1 => ?_, fun h1 => ?_⟩
   · have hF : Z34 a0 (g + 1) i v4 v5 v6 v7 = (true, default, default, default, default) := by simp only [Z34, h0, h1, cond_true, cond_false]
     unfold Z7d at hT
     rw [hF] at hT
     exact hT.1 rfl
   · have h9 := h0
     try simp only [decide_eq_true_eq, decide_eq_false_iff_not] at h9
     have hq := Z121 hp0 h0
     have hF : Z34 a0 (g + 1) i v4 v5 v6 v7 = Z34 a0 (g) (i + 1) ((Z4 (i : Int) ((Z1 a0).2.1) v4 v5 v6 v7).2.1) ((Z4 (i : Int) ((Z1 a0).2.1) v4 v5 v6 v7).2.2.1) ((Z4 (i : Int) ((Z1 a0).2.1) v4 v5 v6 v7).2.2.2.1) ((Z4 (i : Int) ((Z1 a0).2.1) v4 v5 v6 v7).2.2.2.2) := by simp only [Z34, h0, h1, cond_true, cond_false]
     refine ⟨⟨((i + 1), (Z4 (i : Int) ((Z1 a0).2.1) v4 v5 v6 v7).2.1, (Z4 (i : Int) ((Z1 a0).2.1) v4 v5 v6 v7).2.2.1, (Z4 (i : Int) ((Z1 a0).2.1) v4 v5 v6 v7).2.2.2.1, (Z4 (i : Int) ((Z1 a0).2.1) v4 v5 v6 v7).2.2.2.2, (g - 1)), by (first | dsimp only | skip); exact ⟨by omega, Zbd hi.2 _⟩⟩, by show (g - 1) < g; omega, ?_, ?_⟩
     · show _ = Za6 a0 (i + 1) ((Z4 (i : Int) ((Z1 a0).2.1) v4 v5 v6 v7).2.1) ((Z4 (i : Int) ((Z1 a0).2.1) v4 v5 v6 v7).2.2.1) ((Z4 (i : Int) ((Z1 a0).2.1) v4 v5 v6 v7).2.2.2.1) ((Z4 (i : Int) ((Z1 a0).2.1) v4 v5 v6 v7).2.2.2.2) (g - 1)
       unfold Za6
       simp only [hw]
     · show (Z7d a0 (i + 1) ((Z4 (i : Int) ((Z1 a0).2.1) v4 v5 v6 v7).2.1) ((Z4 (i : Int) ((Z1 a0).2.1) v4 v5 v6 v7).2.2.1) ((Z4 (i : Int) ((Z1 a0).2.1) v4 v5 v6 v7).2.2.2.1) ((Z4 (i : Int) ((Z1 a0).2.1) v4 v5 v6 v7).2.2.2.2) (g - 1)).All Q
       unfold Z7d at hT ⊢
       rw [hF] at hT
       rw [show g = (g - 1) + 1 from by omega] at hT
       exact hT
 · have hF : Z34 a0 (g + 1) i v4 v5 v6 v7 = (false, v4, v5, v6, v7) := by simp only [Z34, h0, cond_true, cond_false]
   unfold Z7d at hT
   rw [hF] at hT
   exact hT.2 rfl
abbrev kCl0 (a0 : List XDeed2) := (Z4 ((Z1a ((Z1 a0).2.1) ((Z1 a0).2.2.2.1) ((Z1 a0).2.2.2.2.1) ((Z1 a0).2.2.2.2.2.1) ((Z1 a0).2.2.2.2.2.2.1)).length : Int) ((Z1 a0).2.1) ((Z34 a0 (50 + 1) 0 ((Z1 a0).2.2.2.1) ((Z1 a0).2.2.2.2.1) ((Z1 a0).2.2.2.2.2.1) ((Z1 a0).2.2.2.2.2.2.1)).2.1) ((Z34 a0 (50 + 1) 0 ((Z1 a0).2.2.2.1) ((Z1 a0).2.2.2.2.1) ((Z1 a0).2.2.2.2.2.1) ((Z1 a0).2.2.2.2.2.2.1)).2.2.1) ((Z34 a0 (50 + 1) 0 ((Z1 a0).2.2.2.1) ((Z1 a0).2.2.2.2.1) ((Z1 a0).2.2.2.2.2.1) ((Z1 a0).2.2.2.2.2.2.1)).2.2.2.1) ((Z34 a0 (50 + 1) 0 ((Z1 a0).2.2.2.1) ((Z1 a0).2.2.2.2.1) ((Z1 a0).2.2.2.2.2.1) ((Z1 a0).2.2.2.2.2.2.1)).2.2.2.2))
def Z68 (a0 : List XDeed2) : Bool :=
 cond (cond (!Z114) true (!((Z1 a0).1)))
  false
  (cond ((Z34 a0 (50 + 1) 0 ((Z1 a0).2.2.2.1) ((Z1 a0).2.2.2.2.1) ((Z1 a0).2.2.2.2.2.1) ((Z1 a0).2.2.2.2.2.2.1)).1)
    false
    (cond (((kCl0 a0).1) == (3 : Int))
      (((Z4 (-1 : Int) ((Z1 a0).2.1) ((kCl0 a0).2.1) ((kCl0 a0).2.2.1) ((kCl0 a0).2.2.2.1) ((kCl0 a0).2.2.2.2)).1) == (3 : Int))
      false))
def Z1cf (a0 : List XDeed2) : RT :=
 (.need [∀ x ∈ a0, D2 x]
   (.ask (cond (!Z114) true (!((Z1 a0).1)))
     (.leaf .ret ⟨Za 90 [(2, .bool false)], []⟩ [])
     (.need [((Z1 a0).2.1).length ≤ 1000000]
       (.ask ((Z34 a0 (50 + 1) 0 ((Z1 a0).2.2.2.1) ((Z1 a0).2.2.2.2.1) ((Z1 a0).2.2.2.2.2.1) ((Z1 a0).2.2.2.2.2.2.1)).1)
         (.leaf .ret ⟨Za 90 [(2, .bool false)], []⟩ [])
         (.need [∀ x ∈ ((Z1 a0).2.1), CS x]
           (.ask (((kCl0 a0).1) == (3 : Int))
             (.need [∀ x ∈ ((Z1 a0).2.1), CS x]
               (.leaf .ret ⟨Za 90 [(2, .bool (((Z4 (-1 : Int) ((Z1 a0).2.1) ((kCl0 a0).2.1) ((kCl0 a0).2.2.1) ((kCl0 a0).2.2.2.1) ((kCl0 a0).2.2.2.2)).1) == (3 : Int)))], []⟩ []))
             (.leaf .ret ⟨Za 90 [(2, .bool false)], []⟩ [])))))))
theorem Z245 (a0 : List XDeed2) (hp0 : ∀ x ∈ a0, D2 x) (hp1 : a0.length < 4611686018427387904) : Tr Tryz.prog 0 (Z3c Tryz.f3) (Z27 Tryz.f3 [.coll ⟨.deed2, a0⟩] []) (Z48 Tryz.prog Tryz.f3 (.bool (Z68 a0)) []) := by
 refine Z2f (kok _ _ _ _ _ _) (E := Z112) (L := (Z5f [(0, Za6 a0 0 ((Z1 a0).2.2.2.1) ((Z1 a0).2.2.2.2.1) ((Z1 a0).2.2.2.2.2.1) ((Z1 a0).2.2.2.2.2.2.1) 50, [0, 2, 3, 6, 7, 8, 9], Z7d a0 0 ((Z1 a0).2.2.2.1) ((Z1 a0).2.2.2.2.1) ((Z1 a0).2.2.2.2.2.1) ((Z1 a0).2.2.2.2.2.2.1) 50)])) 60 9999 (Z14.one (g := Z47 Tryz.f3 0) (b := 0) (by kernel_rfl) (by kernel_rfl) (by kernel_rfl) (by kernel_rfl) (fun Q h => Z1d0 a0 hp0 hp1 ⟨(0, (Z1 a0).2.2.2.1, (Z1 a0).2.2.2.2.1, (Z1 a0).2.2.2.2.2.1, (Z1 a0).2.2.2.2.2.2.1, 50), ⟨rfl, Zdd hp0⟩⟩ Q h)) (Z1cf a0) (by kernel_rfl) (by kernel_rfl) (by kernel_rfl) ?_
 unfold Z1cf
 refine ⟨Z2 (by (try refine fun (_ : _ = _) => ?_); (try refine fun (_ : _ ∧ _) => ?_); exact hp0) (Z9), ?_⟩
 refine ⟨fun h0 => ?_, fun h0 => ?_⟩
 · have hF : Z68 a0 = false := by first | exact (Z12 h0 rfl) | simp only [Z68, h0, cond_true, cond_false]
   exact ⟨trivial, .inl (by (try rw [hF]); kernel_rfl), by (try rw [hF]); kernel_rfl⟩
 · refine ⟨Z2 (by (try refine fun (_ : _ = _) => ?_); (try refine fun (_ : _ ∧ _) => ?_); (try simp only [kCl1, kCl2, kCl3, kCl0]); exact PC.len (by (repeat (first | exact hi.2 | exact Zdd hp0 | apply Zbd | apply Z110))) (by first | omega | decide)) (Z9), ?_⟩
   refine ⟨fun h1 => ?_, fun h1 => ?_⟩
   · have hF : Z68 a0 = false := by first | exact (Z3 h0 (Z12 h1 rfl)) | simp only [Z68, h0, h1, cond_true, cond_false]
     exact ⟨trivial, .inl (by (try rw [hF]); kernel_rfl), by (try rw [hF]); kernel_rfl⟩
   · refine ⟨Z2 (by (try refine fun (_ : _ = _) => ?_); (try refine fun (_ : _ ∧ _) => ?_); (try simp only [kCl1, kCl2, kCl3, kCl0]); exact PC.cs (by (repeat (first | exact hi.2 | exact Zdd hp0 | apply Zbd | apply Z110))) (by first | omega | decide)) (Z9), ?_⟩
     refine ⟨fun h2 => ?_, fun h2 => ?_⟩
     · refine ⟨Z2 (by (try refine fun (_ : _ = _) => ?_); (try refine fun (_ : _ ∧ _) => ?_); (try simp only [kCl1, kCl2, kCl3, kCl0]); exact PC.cs (by (repeat (first | exact hi.2 | exact Zdd hp0 | apply Zbd | apply Z110))) (by first | omega | decide)) (Z9), ?_⟩
       have hF : Z68 a0 = (((Z4 (-1 : Int) ((Z1 a0).2.1) ((kCl0 a0).2.1) ((kCl0 a0).2.2.1) ((kCl0 a0).2.2.2.1) ((kCl0 a0).2.2.2.2)).1) == (3 : Int)) := by first | exact (Z3 h0 (Z3 h1 (Z12 h2 rfl))) | simp only [Z68, h0, h1, h2, cond_true, cond_false]
       exact ⟨trivial, .inl (by (try rw [hF]); kernel_rfl), by (try rw [hF]); kernel_rfl⟩
     · have hF : Z68 a0 = false := by first | exact (Z3 h0 (Z3 h1 (Z3 h2 rfl))) | simp only [Z68, h0, h1, h2, cond_true, cond_false]
       exact ⟨trivial, .inl (by (try rw [hF]); kernel_rfl), by (try rw [hF]); kernel_rfl⟩
end Go.Proofs.YtkledlcmhbjadaaGreat
