/- The driver: names, right calls. -/
import Derived.Test.YtkledlcmhbjadaaGreatDH0
set_option linter.unusedVariables false
set_option linter.unusedSimpArgs false
set_option maxRecDepth 100000
namespace Go.Proofs.YtkledlcmhbjadaaGreat
open Go Go.Eng
def ckL : List (Nat × Kind) := [(2, .int .i64), (3, .int .i64), (4, .bool), (5, .int .u8), (6, .int .u8), (9, .str), (10, .str), (11, .str), (12, .int .u64), (21, .int .i32), (31, .int .u8), (32, .int .u64), (34, .call), (36, .int .i64), (42, .int .u8), (44, .deed2), (78, .zone), (94, .sn), (97, .tgt), (99, .done), (104, .strs), (106, .vol), (108, .snap), (127, .done), (149, .int .u64), (151, .int .i64), (160, .int .u32), (162, .int .u64), (178, .int .u8), (179, .int .u8), (182, .int .i32), (183, .int .i32)]
def ckf : TypeId → Option Kind := fun t => ckL.lookup t
noncomputable def Z1ff : Env := Z65 (P := Tryz.prog) [] [] [] ckf
def Z59 (a0 : BA) : Nat → Nat → Bool
 | 0, i => false
 | n + 1, i => cond (cond (cond (cond (cond (cond (!(cond (decide ((Z6f a0 (i : Int)) ≥ (97 : Int))) (decide ((Z6f a0 (i : Int)) ≤ (122 : Int))) false)) (!(cond (decide ((Z6f a0 (i : Int)) ≥ (48 : Int))) (decide ((Z6f a0 (i : Int)) ≤ (57 : Int))) false)) false) (!((Z6f a0 (i : Int)) == (45 : Int))) false) (!((Z6f a0 (i : Int)) == (46 : Int))) false) (!((Z6f a0 (i : Int)) == (35 : Int))) false) (!((Z6f a0 (i : Int)) == (47 : Int))) false)
  true
  (Z59 a0 n (i + 1))
def Zbe (a0 : BA) (i : Nat) : St :=
 ⟨Za 57 [(0, .str a0), (8, .int .i64 (a0.size : Int)), (9, .int .i64 (i : Int))], []⟩
def Z13a (a0 : BA) (i : Nat) : RT :=
 (.ask (decide ((i : Int) < (a0.size : Int)))
   (.need [0 ≤ (i : Int) ∧ (i : Int) < (a0.size : Int)]
     (.ask (cond (cond (cond (cond (cond (!(cond (decide ((Z6f a0 (i : Int)) ≥ (97 : Int))) (decide ((Z6f a0 (i : Int)) ≤ (122 : Int))) false)) (!(cond (decide ((Z6f a0 (i : Int)) ≥ (48 : Int))) (decide ((Z6f a0 (i : Int)) ≤ (57 : Int))) false)) false) (!((Z6f a0 (i : Int)) == (45 : Int))) false) (!((Z6f a0 (i : Int)) == (46 : Int))) false) (!((Z6f a0 (i : Int)) == (35 : Int))) false) (!((Z6f a0 (i : Int)) == (47 : Int))) false)
       (.leaf .ret ⟨Za 57 [(2, .bool false)], []⟩ [])
       (.leaf .normal ⟨Za 57 [(0, .str a0), (8, .int .i64 (a0.size : Int)), (9, .int .i64 (IntKind.i64.wrap ((i : Int) + (1 : Int))))], []⟩ [])))
   (.leaf (.exit 0) ⟨Za 57 [(0, .str a0)], []⟩ []))
def Z8a (a0 : BA) (i : Nat) : Tree :=
 .ask (Z59 a0 (a0.size - i) i) (.leaf .ret ⟨Za 57 [(2, .bool false)], []⟩) (.leaf (.exit 0) ⟨Za 57 [(0, .str a0)], []⟩)
theorem Z21e (a0 : BA) (hp0 : a0.size < 4611686018427387904) (hlen : a0.size < 4611686018427387904) (z : { z : Nat // z ≤ a0.size }) (Q : Exit → St → Prop) (h : (Z8a a0 z.1).All Q) : Tr Tryz.prog 0 (.loop (Z47 Tryz.f60 0)) (Zbe a0 z.1) Q := by
 refine Z60 (kok _ _ _ _ _ _) (E := Z1ff) (ι := { z : Nat // z ≤ a0.size }) 60 0 (fun _ => Z32) (fun z => Zbe a0 z.1) (fun z => Z8a a0 z.1) (fun z => Z13a a0 z.1) (fun z => a0.size - z.1) (fun _ => Z14.none) (fun z => by obtain ⟨i, hi⟩ := z; kernel_rfl) (fun z => by obtain ⟨i, hi⟩ := z; kernel_rfl) (fun z => by obtain ⟨i, hi⟩ := z; kernel_rfl) ?_ z Q h
 rintro ⟨i, hi⟩ Q hT
 replace hT : (Z8a a0 i).All Q := hT
 replace hi : i ≤ a0.size := hi
 show (Z13a a0 i).All _
 unfold Z13a
 refine ⟨fun h0 => ?_, fun h0 => ?_⟩
 · have hlt : i < a0.size := by simpa using h0
   have hd : a0.size - i = (a0.size - (i + 1)) + 1 := by omega
   have hw := Z4e (i := i) (by omega)
   refine ⟨Z2 (by first | assumption | omega | ((try intro _); (try simp only [decide_eq_true_eq, decide_eq_false_iff_not, Bool.cond_false_right, Bool.cond_true_right, Bool.cond_true_left, Bool.cond_false_left, Bool.and_eq_true, Bool.or_eq_true, Bool.not_eq_true', Z18, maxLen, List.length_cons, List.length_nil, List.length_append, Z44] at *); omega)) (Z9), ?_⟩
   refine ⟨fun h1 => ?_, fun h1 => ?_⟩
   · have hF : Z59 a0 (a0.size - i) i = true := by rw [hd]; first | exact (Z12 h1 rfl) | simp only [Z59, h0, h1, cond_true, cond_false]
     unfold Z8a at hT
     rw [hF] at hT
     exact hT.1 rfl
   · have hF : Z59 a0 (a0.size - i) i = Z59 a0 (a0.size - (i + 1)) (i + 1) := by rw [hd]; first | exact (Z3 h1 rfl) | simp only [Z59, h0, h1, cond_true, cond_false]
     refine ⟨⟨(i + 1), by show (i + 1) ≤ a0.size; omega⟩, by show a0.size - (i + 1) < a0.size - i; omega, ?_, ?_⟩
     · show _ = Zbe a0 (i + 1)
       unfold Zbe
       simp only [hw]
     · show (Z8a a0 (i + 1)).All Q
       unfold Z8a at hT ⊢
       rw [hF] at hT
       exact hT
 · have hge : ¬ i < a0.size := by simpa using h0
   have hd : a0.size - i = 0 := by omega
   have hF : Z59 a0 (a0.size - i) i = false := by rw [hd]; first | exact rfl | simp only [Z59, h0, cond_true, cond_false]
   unfold Z8a at hT
   rw [hF] at hT
   exact hT.2 rfl
def Z1f (a0 : BA) : Bool :=
 cond (Z59 a0 (a0.size) 0)
  false
  (cond (!(decide (a0 = (⟨#[]⟩ : BA)))) (decide ((a0.size : Int) ≤ (40 : Int))) false)
def Z239 (a0 : BA) : RT :=
 (.ask (Z59 a0 (a0.size) 0)
   (.leaf .ret ⟨Za 57 [(2, .bool false)], []⟩ [])
   (.leaf .ret ⟨Za 57 [(2, .bool (cond (!(decide (a0 = (⟨#[]⟩ : BA)))) (decide ((a0.size : Int) ≤ (40 : Int))) false))], []⟩ []))
theorem object_NameF_tr (a0 : BA) (hp0 : a0.size < 4611686018427387904) : Tr Tryz.prog 0 (Z3c Tryz.f60) (Z27 Tryz.f60 [.str a0] []) (Z48 Tryz.prog Tryz.f60 (.bool (Z1f a0)) []) := by
 refine Z2f (kok _ _ _ _ _ _) (E := Z1ff) (L := (Z5f [(0, Zbe a0 0, [], Z8a a0 0)])) 60 9999 (Z14.one (g := Z47 Tryz.f60 0) (b := 0) (by kernel_rfl) (by kernel_rfl) (by kernel_rfl) (by kernel_rfl) (fun Q h => Z21e a0 hp0 (by first | assumption | omega | (simp only [List.length_cons, List.length_nil, List.length_append]; omega)) ⟨0, by first | exact Nat.zero_le _ | (show 0 ≤ a0.size; omega) | (show 0 ≤ a0.size; exact ⟨Nat.zero_le _, by assumption⟩) | (show 0 ≤ a0.size; simp)⟩ Q h)) (Z239 a0) (by kernel_rfl) (by kernel_rfl) (by kernel_rfl) ?_
 unfold Z239
 refine ⟨fun h0 => ?_, fun h0 => ?_⟩
 · have hF : Z1f a0 = false := by first | exact (Z12 h0 rfl) | simp only [Z1f, h0, cond_true, cond_false]
   exact ⟨trivial, .inl (by (try rw [hF]); kernel_rfl), by (try rw [hF]); kernel_rfl⟩
 · have hF : Z1f a0 = (cond (!(decide (a0 = (⟨#[]⟩ : BA)))) (decide ((a0.size : Int) ≤ (40 : Int))) false) := by first | exact (Z3 h0 rfl) | simp only [Z1f, h0, cond_true, cond_false]
   exact ⟨trivial, .inl (by (try rw [hF]); kernel_rfl), by (try rw [hF]); kernel_rfl⟩
noncomputable def Z148 : Fact Tryz.prog := Z4b 60 Tryz.f60 (by kernel_rfl) rfl (by kernel_rfl) [.c (.str)] [] true (fun t u => .bool (Z1f t.1)) (fun t u => []) (fun t u => [t.1.size < 4611686018427387904])
 (fun _ _ _ => rfl) (fun t u => by kernel_rfl) (fun t u => by kernel_rfl) (fun t u h => object_NameF_tr t.1 (h _ mS))
noncomputable def E_r03_Name : Env := Z65 (P := Tryz.prog) [] [] [] ckf
def Z81 (a0 : BA) : Nat → Nat → Bool
 | 0, i => false
 | n + 1, i => cond (!(cond (cond (cond (cond (cond (cond (decide ((Z6f a0 (i : Int)) ≥ (97 : Int))) (decide ((Z6f a0 (i : Int)) ≤ (122 : Int))) false) true (cond (decide ((Z6f a0 (i : Int)) ≥ (48 : Int))) (decide ((Z6f a0 (i : Int)) ≤ (57 : Int))) false)) true ((Z6f a0 (i : Int)) == (45 : Int))) true ((Z6f a0 (i : Int)) == (46 : Int))) true ((Z6f a0 (i : Int)) == (35 : Int))) true ((Z6f a0 (i : Int)) == (47 : Int))))
  true
  (Z81 a0 n (i + 1))
def Z11e (a0 : BA) (i : Nat) : St :=
 ⟨Za 53 [(0, .str a0), (3, .int .i64 (i : Int))], []⟩
def Z21c (a0 : BA) (i : Nat) : RT :=
 (.ask (decide ((i : Int) < (a0.size : Int)))
   (.need [0 ≤ (i : Int) ∧ (i : Int) < (a0.size : Int)]
     (.ask (!(cond (cond (cond (cond (cond (cond (decide ((Z6f a0 (i : Int)) ≥ (97 : Int))) (decide ((Z6f a0 (i : Int)) ≤ (122 : Int))) false) true (cond (decide ((Z6f a0 (i : Int)) ≥ (48 : Int))) (decide ((Z6f a0 (i : Int)) ≤ (57 : Int))) false)) true ((Z6f a0 (i : Int)) == (45 : Int))) true ((Z6f a0 (i : Int)) == (46 : Int))) true ((Z6f a0 (i : Int)) == (35 : Int))) true ((Z6f a0 (i : Int)) == (47 : Int))))
       (.leaf .ret ⟨Za 53 [(2, .bool false)], []⟩ [])
       (.leaf .normal ⟨Za 53 [(0, .str a0), (3, .int .i64 (IntKind.i64.wrap ((i : Int) + (1 : Int))))], []⟩ [])))
   (.leaf (.exit 0) ⟨Za 53 [(0, .str a0)], []⟩ []))
def Zb1 (a0 : BA) (i : Nat) : Tree :=
 .ask (Z81 a0 (a0.size - i) i) (.leaf .ret ⟨Za 53 [(2, .bool false)], []⟩) (.leaf (.exit 0) ⟨Za 53 [(0, .str a0)], []⟩)
theorem r03_NameL_loop (a0 : BA) (hp0 : a0.size < 4611686018427387904) (hlen : a0.size < 4611686018427387904) (z : { z : Nat // z ≤ a0.size }) (Q : Exit → St → Prop) (h : (Zb1 a0 z.1).All Q) : Tr Tryz.prog 0 (.loop (Z47 Tryz.f61 0)) (Z11e a0 z.1) Q := by
 refine Z60 (kok _ _ _ _ _ _) (E := E_r03_Name) (ι := { z : Nat // z ≤ a0.size }) 60 0 (fun _ => Z32) (fun z => Z11e a0 z.1) (fun z => Zb1 a0 z.1) (fun z => Z21c a0 z.1) (fun z => a0.size - z.1) (fun _ => Z14.none) (fun z => by obtain ⟨i, hi⟩ := z; kernel_rfl) (fun z => by obtain ⟨i, hi⟩ := z; kernel_rfl) (fun z => by obtain ⟨i, hi⟩ := z; kernel_rfl) ?_ z Q h
 rintro ⟨i, hi⟩ Q hT
 replace hT : (Zb1 a0 i).All Q := hT
 replace hi : i ≤ a0.size := hi
 show (Z21c a0 i).All _
 unfold Z21c
 refine ⟨fun h0 => ?_, fun h0 => ?_⟩
 · have hlt : i < a0.size := by simpa using h0
   have hd : a0.size - i = (a0.size - (i + 1)) + 1 := by omega
   have hw := Z4e (i := i) (by omega)
   refine ⟨Z2 (by first | assumption | omega | ((try intro _); (try simp only [decide_eq_true_eq, decide_eq_false_iff_not, Bool.cond_false_right, Bool.cond_true_right, Bool.cond_true_left, Bool.cond_false_left, Bool.and_eq_true, Bool.or_eq_true, Bool.not_eq_true', Z18, maxLen, List.length_cons, List.length_nil, List.length_append, Z44] at *); omega)) (Z9), ?_⟩
   refine ⟨fun h1 => ?_, fun h1 => ?_⟩
   · have hF : Z81 a0 (a0.size - i) i = true := by rw [hd]; first | exact (Z12 h1 rfl) | simp only [Z81, h0, h1, cond_true, cond_false]
     unfold Zb1 at hT
     rw [hF] at hT
     exact hT.1 rfl
   · have hF : Z81 a0 (a0.size - i) i = Z81 a0 (a0.size - (i + 1)) (i + 1) := by rw [hd]; first | exact (Z3 h1 rfl) | simp only [Z81, h0, h1, cond_true, cond_false]
     refine ⟨⟨(i + 1), by show (i + 1) ≤ a0.size; omega⟩, by show a0.size - (i + 1) < a0.size - i; omega, ?_, ?_⟩
     · show _ = Z11e a0 (i + 1)
       unfold Z11e
       simp only [hw]
     · show (Zb1 a0 (i + 1)).All Q
       unfold Zb1 at hT ⊢
       rw [hF] at hT
       exact hT
 · have hge : ¬ i < a0.size := by simpa using h0
   have hd : a0.size - i = 0 := by omega
   have hF : Z81 a0 (a0.size - i) i = false := by rw [hd]; first | exact rfl | simp only [Z81, h0, cond_true, cond_false]
   unfold Zb1 at hT
   rw [hF] at hT
   exact hT.2 rfl
def Z3e (a0 : BA) : Bool :=
 cond (Z81 a0 (a0.size) 0)
  false
  (cond (decide ((a0.size : Int) ≥ (1 : Int))) (decide ((a0.size : Int) ≤ (40 : Int))) false)
def r03_NameR (a0 : BA) : RT :=
 (.ask (Z81 a0 (a0.size) 0)
   (.leaf .ret ⟨Za 53 [(2, .bool false)], []⟩ [])
   (.leaf .ret ⟨Za 53 [(2, .bool (cond (decide ((a0.size : Int) ≥ (1 : Int))) (decide ((a0.size : Int) ≤ (40 : Int))) false))], []⟩ []))
theorem r03_NameF_tr (a0 : BA) (hp0 : a0.size < 4611686018427387904) : Tr Tryz.prog 0 (Z3c Tryz.f61) (Z27 Tryz.f61 [.str a0] []) (Z48 Tryz.prog Tryz.f61 (.bool (Z3e a0)) []) := by
 refine Z2f (kok _ _ _ _ _ _) (E := E_r03_Name) (L := (Z5f [(0, Z11e a0 0, [], Zb1 a0 0)])) 60 9999 (Z14.one (g := Z47 Tryz.f61 0) (b := 0) (by kernel_rfl) (by kernel_rfl) (by kernel_rfl) (by kernel_rfl) (fun Q h => r03_NameL_loop a0 hp0 (by first | assumption | omega | (simp only [List.length_cons, List.length_nil, List.length_append]; omega)) ⟨0, by first | exact Nat.zero_le _ | (show 0 ≤ a0.size; omega) | (show 0 ≤ a0.size; exact ⟨Nat.zero_le _, by assumption⟩) | (show 0 ≤ a0.size; simp)⟩ Q h)) (r03_NameR a0) (by kernel_rfl) (by kernel_rfl) (by kernel_rfl) ?_
 unfold r03_NameR
 refine ⟨fun h0 => ?_, fun h0 => ?_⟩
 · have hF : Z3e a0 = false := by first | exact (Z12 h0 rfl) | simp only [Z3e, h0, cond_true, cond_false]
   exact ⟨trivial, .inl (by (try rw [hF]); kernel_rfl), by (try rw [hF]); kernel_rfl⟩
 · have hF : Z3e a0 = (cond (decide ((a0.size : Int) ≥ (1 : Int))) (decide ((a0.size : Int) ≤ (40 : Int))) false) := by first | exact (Z3 h0 rfl) | simp only [Z3e, h0, cond_true, cond_false]
   exact ⟨trivial, .inl (by (try rw [hF]); kernel_rfl), by (try rw [hF]); kernel_rfl⟩
noncomputable def Z1e3 : Fact Tryz.prog := Z4b 61 Tryz.f61 (by kernel_rfl) rfl (by kernel_rfl) [.c (.str)] [] true (fun t u => .bool (Z3e t.1)) (fun t u => []) (fun t u => [t.1.size < 4611686018427387904])
 (fun _ _ _ => rfl) (fun t u => by kernel_rfl) (fun t u => by kernel_rfl) (fun t u h => r03_NameF_tr t.1 (h _ mS))
noncomputable def E_driver_Right : Env := Z65 (P := Tryz.prog) [Z148] [] [] ckf
def Z15 (a0 : XCall) : Bool :=
 cond (cond (cond (cond (!(Z1f a0.target)) true (a0.num == (0 : Int))) true (decide (a0.size < (0 : Int)))) true (decide (a0.size > (1125899906842624 : Int))))
  false
  (cond (a0.verb == (1 : Int))
    (cond (cond (cond (decide (a0.size > (0 : Int))) (Z1f a0.zone) false) (decide (a0.node = (⟨#[]⟩ : BA))) false) (cond (Z1f a0.source) true (decide (a0.source = (⟨#[]⟩ : BA)))) false)
    (cond (a0.verb == (2 : Int))
      (cond (cond (cond (!(decide (a0.size > (0 : Int)))) (decide (a0.zone = (⟨#[]⟩ : BA))) false) (decide (a0.node = (⟨#[]⟩ : BA))) false) (decide (a0.source = (⟨#[]⟩ : BA))) false)
      (cond (a0.verb == (7 : Int))
        (cond (cond (cond (!(decide (a0.size > (0 : Int)))) (decide (a0.zone = (⟨#[]⟩ : BA))) false) (decide (a0.node = (⟨#[]⟩ : BA))) false) (decide (a0.source = (⟨#[]⟩ : BA))) false)
        (cond (a0.verb == (3 : Int))
          (cond (cond (cond (!(decide (a0.size > (0 : Int)))) (decide (a0.zone = (⟨#[]⟩ : BA))) false) (Z1f a0.node) false) (decide (a0.source = (⟨#[]⟩ : BA))) false)
          (cond (a0.verb == (4 : Int))
            (cond (cond (cond (!(decide (a0.size > (0 : Int)))) (decide (a0.zone = (⟨#[]⟩ : BA))) false) (Z1f a0.node) false) (decide (a0.source = (⟨#[]⟩ : BA))) false)
            (cond (a0.verb == (5 : Int))
              (cond (cond (cond (decide (a0.size > (0 : Int))) (decide (a0.zone = (⟨#[]⟩ : BA))) false) (decide (a0.node = (⟨#[]⟩ : BA))) false) (decide (a0.source = (⟨#[]⟩ : BA))) false)
              (cond (a0.verb == (6 : Int))
                (cond (cond (cond (!(decide (a0.size > (0 : Int)))) (decide (a0.zone = (⟨#[]⟩ : BA))) false) (decide (a0.node = (⟨#[]⟩ : BA))) false) (Z1f a0.source) false)
                false)))))))
def Z1ee (a0 : XCall) : RT :=
 (.need [a0.target.size < 4611686018427387904]
   (.ask (cond (cond (cond (!(Z1f a0.target)) true (a0.num == (0 : Int))) true (decide (a0.size < (0 : Int)))) true (decide (a0.size > (1125899906842624 : Int))))
     (.leaf .ret ⟨Za 120 [(2, .bool false)], []⟩ [])
     (.need [a0.zone.size < 4611686018427387904, a0.node.size < 4611686018427387904, a0.source.size < 4611686018427387904]
       (.ask (a0.verb == (1 : Int))
         (.leaf .ret ⟨Za 120 [(2, .bool (cond (cond (cond (decide (a0.size > (0 : Int))) (Z1f a0.zone) false) (decide (a0.node = (⟨#[]⟩ : BA))) false) (cond (Z1f a0.source) true (decide (a0.source = (⟨#[]⟩ : BA)))) false))], []⟩ [])
         (.ask (a0.verb == (2 : Int))
           (.ask true
             (.leaf .ret ⟨Za 120 [(2, .bool (cond (cond (cond (!(decide (a0.size > (0 : Int)))) (decide (a0.zone = (⟨#[]⟩ : BA))) false) (decide (a0.node = (⟨#[]⟩ : BA))) false) (decide (a0.source = (⟨#[]⟩ : BA))) false))], []⟩ [])
             .fail)
           (.ask (a0.verb == (7 : Int))
             (.leaf .ret ⟨Za 120 [(2, .bool (cond (cond (cond (!(decide (a0.size > (0 : Int)))) (decide (a0.zone = (⟨#[]⟩ : BA))) false) (decide (a0.node = (⟨#[]⟩ : BA))) false) (decide (a0.source = (⟨#[]⟩ : BA))) false))], []⟩ [])
             (.ask (a0.verb == (3 : Int))
               (.ask true
                 (.leaf .ret ⟨Za 120 [(2, .bool (cond (cond (cond (!(decide (a0.size > (0 : Int)))) (decide (a0.zone = (⟨#[]⟩ : BA))) false) (Z1f a0.node) false) (decide (a0.source = (⟨#[]⟩ : BA))) false))], []⟩ [])
                 .fail)
               (.ask (a0.verb == (4 : Int))
                 (.leaf .ret ⟨Za 120 [(2, .bool (cond (cond (cond (!(decide (a0.size > (0 : Int)))) (decide (a0.zone = (⟨#[]⟩ : BA))) false) (Z1f a0.node) false) (decide (a0.source = (⟨#[]⟩ : BA))) false))], []⟩ [])
                 (.ask (a0.verb == (5 : Int))
                   (.leaf .ret ⟨Za 120 [(2, .bool (cond (cond (cond (decide (a0.size > (0 : Int))) (decide (a0.zone = (⟨#[]⟩ : BA))) false) (decide (a0.node = (⟨#[]⟩ : BA))) false) (decide (a0.source = (⟨#[]⟩ : BA))) false))], []⟩ [])
                   (.ask (a0.verb == (6 : Int))
                     (.leaf .ret ⟨Za 120 [(2, .bool (cond (cond (cond (!(decide (a0.size > (0 : Int)))) (decide (a0.zone = (⟨#[]⟩ : BA))) false) (decide (a0.node = (⟨#[]⟩ : BA))) false) (Z1f a0.source) false))], []⟩ [])
                     (.leaf .ret ⟨Za 120 [(2, .bool false)], []⟩ [])))))))))))
theorem Z24c (a0 : XCall) (hp0 : CS a0) : Tr Tryz.prog 0 (Z3c Tryz.f40) (Z27 Tryz.f40 [.agg (cc a0)] []) (Z48 Tryz.prog Tryz.f40 (.bool (Z15 a0)) []) := by
 refine Z2f (kok _ _ _ _ _ _) (E := E_driver_Right) (L := Z32) 60 9999 Z14.none (Z1ee a0) (by kernel_rfl) (by kernel_rfl) (by kernel_rfl) ?_
 unfold Z1ee
 refine ⟨Z2 (by (try refine fun (_ : _ = _) => ?_); (try refine fun (_ : _ ∧ _) => ?_); first | exact hp0.1 | exact hp0.2.1 | exact hp0.2.2.1 | exact hp0.2.2.2) (Z9), ?_⟩
 refine ⟨fun h0 => ?_, fun h0 => ?_⟩
 · have hF : Z15 a0 = false := by first | exact (Z12 h0 rfl) | simp only [Z15, h0, cond_true, cond_false]
   exact ⟨trivial, .inl (by (try rw [hF]); kernel_rfl), by (try rw [hF]); kernel_rfl⟩
 · refine ⟨(by (iterate 3 refine Z2 (by (try refine fun (_ : _ = _) => ?_); (try refine fun (_ : _ ∧ _) => ?_); first | exact hp0.1 | exact hp0.2.1 | exact hp0.2.2.1 | exact hp0.2.2.2) ?_); exact Z9), ?_⟩
   refine ⟨fun h1 => ?_, fun h1 => ?_⟩
   · have hF : Z15 a0 = (cond (cond (cond (decide (a0.size > (0 : Int))) (Z1f a0.zone) false) (decide (a0.node = (⟨#[]⟩ : BA))) false) (cond (Z1f a0.source) true (decide (a0.source = (⟨#[]⟩ : BA)))) false) := by first | exact (Z3 h0 (Z12 h1 rfl)) | simp only [Z15, h0, h1, cond_true, cond_false]
     exact ⟨trivial, .inl (by (try rw [hF]); kernel_rfl), by (try rw [hF]); kernel_rfl⟩
   · refine ⟨fun h2 => ?_, fun h2 => ?_⟩
     · refine ⟨fun h3 => ?_, fun h3 => ?_⟩
       · have hF : Z15 a0 = (cond (cond (cond (!(decide (a0.size > (0 : Int)))) (decide (a0.zone = (⟨#[]⟩ : BA))) false) (decide (a0.node = (⟨#[]⟩ : BA))) false) (decide (a0.source = (⟨#[]⟩ : BA))) false) := by first | exact (Z3 h0 (Z3 h1 (Z12 h2 rfl))) | simp only [Z15, h0, h1, h2, h3, cond_true, cond_false]
         exact ⟨trivial, .inl (by (try rw [hF]); kernel_rfl), by (try rw [hF]); kernel_rfl⟩
       · exact absurd h3 (by simp)
     · refine ⟨fun h3 => ?_, fun h3 => ?_⟩
       · have hF : Z15 a0 = (cond (cond (cond (!(decide (a0.size > (0 : Int)))) (decide (a0.zone = (⟨#[]⟩ : BA))) false) (decide (a0.node = (⟨#[]⟩ : BA))) false) (decide (a0.source = (⟨#[]⟩ : BA))) false) := by first | exact (Z3 h0 (Z3 h1 (Z3 h2 (Z12 h3 rfl)))) | simp only [Z15, h0, h1, h2, h3, cond_true, cond_false]
         exact ⟨trivial, .inl (by (try rw [hF]); kernel_rfl), by (try rw [hF]); kernel_rfl⟩
       · refine ⟨fun h4 => ?_, fun h4 => ?_⟩
         · refine ⟨fun h5 => ?_, fun h5 => ?_⟩
           · have hF : Z15 a0 = (cond (cond (cond (!(decide (a0.size > (0 : Int)))) (decide (a0.zone = (⟨#[]⟩ : BA))) false) (Z1f a0.node) false) (decide (a0.source = (⟨#[]⟩ : BA))) false) := by first | exact (Z3 h0 (Z3 h1 (Z3 h2 (Z3 h3 (Z12 h4 rfl))))) | simp only [Z15, h0, h1, h2, h3, h4, h5, cond_true, cond_false]
             exact ⟨trivial, .inl (by (try rw [hF]); kernel_rfl), by (try rw [hF]); kernel_rfl⟩
           · exact absurd h5 (by simp)
         · refine ⟨fun h5 => ?_, fun h5 => ?_⟩
           · have hF : Z15 a0 = (cond (cond (cond (!(decide (a0.size > (0 : Int)))) (decide (a0.zone = (⟨#[]⟩ : BA))) false) (Z1f a0.node) false) (decide (a0.source = (⟨#[]⟩ : BA))) false) := by first | exact (Z3 h0 (Z3 h1 (Z3 h2 (Z3 h3 (Z3 h4 (Z12 h5 rfl)))))) | simp only [Z15, h0, h1, h2, h3, h4, h5, cond_true, cond_false]
             exact ⟨trivial, .inl (by (try rw [hF]); kernel_rfl), by (try rw [hF]); kernel_rfl⟩
           · refine ⟨fun h6 => ?_, fun h6 => ?_⟩
             · have hF : Z15 a0 = (cond (cond (cond (decide (a0.size > (0 : Int))) (decide (a0.zone = (⟨#[]⟩ : BA))) false) (decide (a0.node = (⟨#[]⟩ : BA))) false) (decide (a0.source = (⟨#[]⟩ : BA))) false) := by first | exact (Z3 h0 (Z3 h1 (Z3 h2 (Z3 h3 (Z3 h4 (Z3 h5 (Z12 h6 rfl))))))) | simp only [Z15, h0, h1, h2, h3, h4, h5, h6, cond_true, cond_false]
               exact ⟨trivial, .inl (by (try rw [hF]); kernel_rfl), by (try rw [hF]); kernel_rfl⟩
             · refine ⟨fun h7 => ?_, fun h7 => ?_⟩
               · have hF : Z15 a0 = (cond (cond (cond (!(decide (a0.size > (0 : Int)))) (decide (a0.zone = (⟨#[]⟩ : BA))) false) (decide (a0.node = (⟨#[]⟩ : BA))) false) (Z1f a0.source) false) := by first | exact (Z3 h0 (Z3 h1 (Z3 h2 (Z3 h3 (Z3 h4 (Z3 h5 (Z3 h6 (Z12 h7 rfl)))))))) | simp only [Z15, h0, h1, h2, h3, h4, h5, h6, h7, cond_true, cond_false]
                 exact ⟨trivial, .inl (by (try rw [hF]); kernel_rfl), by (try rw [hF]); kernel_rfl⟩
               · have hF : Z15 a0 = false := by first | exact (Z3 h0 (Z3 h1 (Z3 h2 (Z3 h3 (Z3 h4 (Z3 h5 (Z3 h6 (Z3 h7 rfl)))))))) | simp only [Z15, h0, h1, h2, h3, h4, h5, h6, h7, cond_true, cond_false]
                 exact ⟨trivial, .inl (by (try rw [hF]); kernel_rfl), by (try rw [hF]); kernel_rfl⟩
noncomputable def Z124 : Fact Tryz.prog := Z4b 40 Tryz.f40 (by kernel_rfl) rfl (by kernel_rfl) [.st .call] [] true (fun t u => .bool (Z15 t.1)) (fun t u => []) (fun t u => [CS t.1])
 (fun _ _ _ => rfl) (fun t u => by kernel_rfl) (fun t u => by kernel_rfl) (fun t u h => Z24c t.1 (h _ mS))
noncomputable def E_r10_Right : Env := Z65 (P := Tryz.prog) [Z1e3] [] [] ckf
def Z45 (a0 : XCall) : Bool :=
 cond (cond (cond (cond (!(Z3e a0.target)) true (a0.num == (0 : Int))) true (decide (a0.size < (0 : Int)))) true (decide (a0.size > (1125899906842624 : Int))))
  false
  (cond (a0.verb == (1 : Int))
    (cond (cond (cond ((a0.verb == a0.verb) && ((decide (a0.target = a0.target)) && ((a0.num == a0.num) && ((a0.size == a0.size) && ((decide (a0.zone = a0.zone)) && ((decide (a0.node = (⟨#[]⟩ : BA))) && (decide (a0.source = a0.source)))))))) (decide (a0.size > (0 : Int))) false) (Z3e a0.zone) false) (cond (decide (a0.source = (⟨#[]⟩ : BA))) true (Z3e a0.source)) false)
    (cond (a0.verb == (2 : Int))
      ((a0.verb == a0.verb) && ((decide (a0.target = a0.target)) && ((a0.num == a0.num) && ((a0.size == (0 : Int)) && ((decide (a0.zone = (⟨#[]⟩ : BA))) && ((decide (a0.node = (⟨#[]⟩ : BA))) && (decide (a0.source = (⟨#[]⟩ : BA)))))))))
      (cond (a0.verb == (7 : Int))
        ((a0.verb == a0.verb) && ((decide (a0.target = a0.target)) && ((a0.num == a0.num) && ((a0.size == (0 : Int)) && ((decide (a0.zone = (⟨#[]⟩ : BA))) && ((decide (a0.node = (⟨#[]⟩ : BA))) && (decide (a0.source = (⟨#[]⟩ : BA)))))))))
        (cond (a0.verb == (3 : Int))
          (cond ((a0.verb == a0.verb) && ((decide (a0.target = a0.target)) && ((a0.num == a0.num) && ((a0.size == (0 : Int)) && ((decide (a0.zone = (⟨#[]⟩ : BA))) && ((decide (a0.node = a0.node)) && (decide (a0.source = (⟨#[]⟩ : BA))))))))) (Z3e a0.node) false)
          (cond (a0.verb == (4 : Int))
            (cond ((a0.verb == a0.verb) && ((decide (a0.target = a0.target)) && ((a0.num == a0.num) && ((a0.size == (0 : Int)) && ((decide (a0.zone = (⟨#[]⟩ : BA))) && ((decide (a0.node = a0.node)) && (decide (a0.source = (⟨#[]⟩ : BA))))))))) (Z3e a0.node) false)
            (cond (a0.verb == (5 : Int))
              (cond ((a0.verb == a0.verb) && ((decide (a0.target = a0.target)) && ((a0.num == a0.num) && ((a0.size == a0.size) && ((decide (a0.zone = (⟨#[]⟩ : BA))) && ((decide (a0.node = (⟨#[]⟩ : BA))) && (decide (a0.source = (⟨#[]⟩ : BA))))))))) (decide (a0.size > (0 : Int))) false)
              (cond (a0.verb == (6 : Int))
                (cond ((a0.verb == a0.verb) && ((decide (a0.target = a0.target)) && ((a0.num == a0.num) && ((a0.size == (0 : Int)) && ((decide (a0.zone = (⟨#[]⟩ : BA))) && ((decide (a0.node = (⟨#[]⟩ : BA))) && (decide (a0.source = a0.source)))))))) (Z3e a0.source) false)
                false)))))))
def r10_RightR (a0 : XCall) : RT :=
 (.need [a0.target.size < 4611686018427387904]
   (.ask (cond (cond (cond (!(Z3e a0.target)) true (a0.num == (0 : Int))) true (decide (a0.size < (0 : Int)))) true (decide (a0.size > (1125899906842624 : Int))))
     (.leaf .ret ⟨Za 112 [(2, .bool false)], []⟩ [])
     (.ask (a0.verb == (1 : Int))
       (.need [((cond ((a0.verb == a0.verb) && ((decide (a0.target = a0.target)) && ((a0.num == a0.num) && ((a0.size == a0.size) && ((decide (a0.zone = a0.zone)) && ((decide (a0.node = (⟨#[]⟩ : BA))) && (decide (a0.source = a0.source)))))))) (decide (a0.size > (0 : Int))) false) = true) → (a0.zone.size < 4611686018427387904)]
         (.need [(((cond (cond ((a0.verb == a0.verb) && ((decide (a0.target = a0.target)) && ((a0.num == a0.num) && ((a0.size == a0.size) && ((decide (a0.zone = a0.zone)) && ((decide (a0.node = (⟨#[]⟩ : BA))) && (decide (a0.source = a0.source)))))))) (decide (a0.size > (0 : Int))) false) (Z3e a0.zone) false) = true) ∧ (decide (a0.source = (⟨#[]⟩ : BA))) = false) → (a0.source.size < 4611686018427387904)]
           (.leaf .ret ⟨Za 112 [(2, .bool (cond (cond (cond ((a0.verb == a0.verb) && ((decide (a0.target = a0.target)) && ((a0.num == a0.num) && ((a0.size == a0.size) && ((decide (a0.zone = a0.zone)) && ((decide (a0.node = (⟨#[]⟩ : BA))) && (decide (a0.source = a0.source)))))))) (decide (a0.size > (0 : Int))) false) (Z3e a0.zone) false) (cond (decide (a0.source = (⟨#[]⟩ : BA))) true (Z3e a0.source)) false))], []⟩ [])))
       (.ask (a0.verb == (2 : Int))
         (.ask true
           (.leaf .ret ⟨Za 112 [(2, .bool ((a0.verb == a0.verb) && ((decide (a0.target = a0.target)) && ((a0.num == a0.num) && ((a0.size == (0 : Int)) && ((decide (a0.zone = (⟨#[]⟩ : BA))) && ((decide (a0.node = (⟨#[]⟩ : BA))) && (decide (a0.source = (⟨#[]⟩ : BA))))))))))], []⟩ [])
           .fail)
         (.ask (a0.verb == (7 : Int))
           (.leaf .ret ⟨Za 112 [(2, .bool ((a0.verb == a0.verb) && ((decide (a0.target = a0.target)) && ((a0.num == a0.num) && ((a0.size == (0 : Int)) && ((decide (a0.zone = (⟨#[]⟩ : BA))) && ((decide (a0.node = (⟨#[]⟩ : BA))) && (decide (a0.source = (⟨#[]⟩ : BA))))))))))], []⟩ [])
           (.ask (a0.verb == (3 : Int))
             (.ask true
               (.need [(((a0.verb == a0.verb) && ((decide (a0.target = a0.target)) && ((a0.num == a0.num) && ((a0.size == (0 : Int)) && ((decide (a0.zone = (⟨#[]⟩ : BA))) && ((decide (a0.node = a0.node)) && (decide (a0.source = (⟨#[]⟩ : BA))))))))) = true) → (a0.node.size < 4611686018427387904)]
                 (.leaf .ret ⟨Za 112 [(2, .bool (cond ((a0.verb == a0.verb) && ((decide (a0.target = a0.target)) && ((a0.num == a0.num) && ((a0.size == (0 : Int)) && ((decide (a0.zone = (⟨#[]⟩ : BA))) && ((decide (a0.node = a0.node)) && (decide (a0.source = (⟨#[]⟩ : BA))))))))) (Z3e a0.node) false))], []⟩ []))
               .fail)
             (.ask (a0.verb == (4 : Int))
               (.need [(((a0.verb == a0.verb) && ((decide (a0.target = a0.target)) && ((a0.num == a0.num) && ((a0.size == (0 : Int)) && ((decide (a0.zone = (⟨#[]⟩ : BA))) && ((decide (a0.node = a0.node)) && (decide (a0.source = (⟨#[]⟩ : BA))))))))) = true) → (a0.node.size < 4611686018427387904)]
                 (.leaf .ret ⟨Za 112 [(2, .bool (cond ((a0.verb == a0.verb) && ((decide (a0.target = a0.target)) && ((a0.num == a0.num) && ((a0.size == (0 : Int)) && ((decide (a0.zone = (⟨#[]⟩ : BA))) && ((decide (a0.node = a0.node)) && (decide (a0.source = (⟨#[]⟩ : BA))))))))) (Z3e a0.node) false))], []⟩ []))
               (.ask (a0.verb == (5 : Int))
                 (.leaf .ret ⟨Za 112 [(2, .bool (cond ((a0.verb == a0.verb) && ((decide (a0.target = a0.target)) && ((a0.num == a0.num) && ((a0.size == a0.size) && ((decide (a0.zone = (⟨#[]⟩ : BA))) && ((decide (a0.node = (⟨#[]⟩ : BA))) && (decide (a0.source = (⟨#[]⟩ : BA))))))))) (decide (a0.size > (0 : Int))) false))], []⟩ [])
                 (.ask (a0.verb == (6 : Int))
                   (.need [(((a0.verb == a0.verb) && ((decide (a0.target = a0.target)) && ((a0.num == a0.num) && ((a0.size == (0 : Int)) && ((decide (a0.zone = (⟨#[]⟩ : BA))) && ((decide (a0.node = (⟨#[]⟩ : BA))) && (decide (a0.source = a0.source)))))))) = true) → (a0.source.size < 4611686018427387904)]
                     (.leaf .ret ⟨Za 112 [(2, .bool (cond ((a0.verb == a0.verb) && ((decide (a0.target = a0.target)) && ((a0.num == a0.num) && ((a0.size == (0 : Int)) && ((decide (a0.zone = (⟨#[]⟩ : BA))) && ((decide (a0.node = (⟨#[]⟩ : BA))) && (decide (a0.source = a0.source)))))))) (Z3e a0.source) false))], []⟩ []))
                   (.leaf .ret ⟨Za 112 [(2, .bool false)], []⟩ []))))))))))
theorem r10_RightF_tr (a0 : XCall) (hp0 : CS a0) : Tr Tryz.prog 0 (Z3c Tryz.f58) (Z27 Tryz.f58 [.agg (cc a0)] []) (Z48 Tryz.prog Tryz.f58 (.bool (Z45 a0)) []) := by
 refine Z2f (kok _ _ _ _ _ _) (E := E_r10_Right) (L := Z32) 60 9999 Z14.none (r10_RightR a0) (by kernel_rfl) (by kernel_rfl) (by kernel_rfl) ?_
 unfold r10_RightR
 refine ⟨Z2 (by (try refine fun (_ : _ = _) => ?_); (try refine fun (_ : _ ∧ _) => ?_); first | exact hp0.1 | exact hp0.2.1 | exact hp0.2.2.1 | exact hp0.2.2.2) (Z9), ?_⟩
 refine ⟨fun h0 => ?_, fun h0 => ?_⟩
 · have hF : Z45 a0 = false := by first | exact (Z12 h0 rfl) | simp only [Z45, h0, cond_true, cond_false]
   exact ⟨trivial, .inl (by (try rw [hF]); kernel_rfl), by (try rw [hF]); kernel_rfl⟩
 · refine ⟨fun h1 => ?_, fun h1 => ?_⟩
   · refine ⟨Z2 (by (try refine fun (_ : _ = _) => ?_); (try refine fun (_ : _ ∧ _) => ?_); first | exact hp0.1 | exact hp0.2.1 | exact hp0.2.2.1 | exact hp0.2.2.2) (Z9), ?_⟩
     refine ⟨Z2 (by (try refine fun (_ : _ = _) => ?_); (try refine fun (_ : _ ∧ _) => ?_); first | exact hp0.1 | exact hp0.2.1 | exact hp0.2.2.1 | exact hp0.2.2.2) (Z9), ?_⟩
     have hF : Z45 a0 = (cond (cond (cond ((a0.verb == a0.verb) && ((decide (a0.target = a0.target)) && ((a0.num == a0.num) && ((a0.size == a0.size) && ((decide (a0.zone = a0.zone)) && ((decide (a0.node = (⟨#[]⟩ : BA))) && (decide (a0.source = a0.source)))))))) (decide (a0.size > (0 : Int))) false) (Z3e a0.zone) false) (cond (decide (a0.source = (⟨#[]⟩ : BA))) true (Z3e a0.source)) false) := by first | exact (Z3 h0 (Z12 h1 rfl)) | simp only [Z45, h0, h1, cond_true, cond_false]
     exact ⟨trivial, .inl (by (try rw [hF]); kernel_rfl), by (try rw [hF]); kernel_rfl⟩
   · refine ⟨fun h2 => ?_, fun h2 => ?_⟩
     · refine ⟨fun h3 => ?_, fun h3 => ?_⟩
       · have hF : Z45 a0 = ((a0.verb == a0.verb) && ((decide (a0.target = a0.target)) && ((a0.num == a0.num) && ((a0.size == (0 : Int)) && ((decide (a0.zone = (⟨#[]⟩ : BA))) && ((decide (a0.node = (⟨#[]⟩ : BA))) && (decide (a0.source = (⟨#[]⟩ : BA))))))))) := by first | exact (Z3 h0 (Z3 h1 (Z12 h2 rfl))) | simp only [Z45, h0, h1, h2, h3, cond_true, cond_false]
         exact ⟨trivial, .inl (by (try rw [hF]); kernel_rfl), by (try rw [hF]); kernel_rfl⟩
       · exact absurd h3 (by simp)
     · refine ⟨fun h3 => ?_, fun h3 => ?_⟩
       · have hF : Z45 a0 = ((a0.verb == a0.verb) && ((decide (a0.target = a0.target)) && ((a0.num == a0.num) && ((a0.size == (0 : Int)) && ((decide (a0.zone = (⟨#[]⟩ : BA))) && ((decide (a0.node = (⟨#[]⟩ : BA))) && (decide (a0.source = (⟨#[]⟩ : BA))))))))) := by first | exact (Z3 h0 (Z3 h1 (Z3 h2 (Z12 h3 rfl)))) | simp only [Z45, h0, h1, h2, h3, cond_true, cond_false]
         exact ⟨trivial, .inl (by (try rw [hF]); kernel_rfl), by (try rw [hF]); kernel_rfl⟩
       · refine ⟨fun h4 => ?_, fun h4 => ?_⟩
         · refine ⟨fun h5 => ?_, fun h5 => ?_⟩
           · refine ⟨Z2 (by (try refine fun (_ : _ = _) => ?_); (try refine fun (_ : _ ∧ _) => ?_); first | exact hp0.1 | exact hp0.2.1 | exact hp0.2.2.1 | exact hp0.2.2.2) (Z9), ?_⟩
             have hF : Z45 a0 = (cond ((a0.verb == a0.verb) && ((decide (a0.target = a0.target)) && ((a0.num == a0.num) && ((a0.size == (0 : Int)) && ((decide (a0.zone = (⟨#[]⟩ : BA))) && ((decide (a0.node = a0.node)) && (decide (a0.source = (⟨#[]⟩ : BA))))))))) (Z3e a0.node) false) := by first | exact (Z3 h0 (Z3 h1 (Z3 h2 (Z3 h3 (Z12 h4 rfl))))) | simp only [Z45, h0, h1, h2, h3, h4, h5, cond_true, cond_false]
             exact ⟨trivial, .inl (by (try rw [hF]); kernel_rfl), by (try rw [hF]); kernel_rfl⟩
           · exact absurd h5 (by simp)
         · refine ⟨fun h5 => ?_, fun h5 => ?_⟩
           · refine ⟨Z2 (by (try refine fun (_ : _ = _) => ?_); (try refine fun (_ : _ ∧ _) => ?_); first | exact hp0.1 | exact hp0.2.1 | exact hp0.2.2.1 | exact hp0.2.2.2) (Z9), ?_⟩
             have hF : Z45 a0 = (cond ((a0.verb == a0.verb) && ((decide (a0.target = a0.target)) && ((a0.num == a0.num) && ((a0.size == (0 : Int)) && ((decide (a0.zone = (⟨#[]⟩ : BA))) && ((decide (a0.node = a0.node)) && (decide (a0.source = (⟨#[]⟩ : BA))))))))) (Z3e a0.node) false) := by first | exact (Z3 h0 (Z3 h1 (Z3 h2 (Z3 h3 (Z3 h4 (Z12 h5 rfl)))))) | simp only [Z45, h0, h1, h2, h3, h4, h5, cond_true, cond_false]
             exact ⟨trivial, .inl (by (try rw [hF]); kernel_rfl), by (try rw [hF]); kernel_rfl⟩
           · refine ⟨fun h6 => ?_, fun h6 => ?_⟩
             · have hF : Z45 a0 = (cond ((a0.verb == a0.verb) && ((decide (a0.target = a0.target)) && ((a0.num == a0.num) && ((a0.size == a0.size) && ((decide (a0.zone = (⟨#[]⟩ : BA))) && ((decide (a0.node = (⟨#[]⟩ : BA))) && (decide (a0.source = (⟨#[]⟩ : BA))))))))) (decide (a0.size > (0 : Int))) false) := by first | exact (Z3 h0 (Z3 h1 (Z3 h2 (Z3 h3 (Z3 h4 (Z3 h5 (Z12 h6 rfl))))))) | simp only [Z45, h0, h1, h2, h3, h4, h5, h6, cond_true, cond_false]
               exact ⟨trivial, .inl (by (try rw [hF]); kernel_rfl), by (try rw [hF]); kernel_rfl⟩
             · refine ⟨fun h7 => ?_, fun h7 => ?_⟩
               · refine ⟨Z2 (by (try refine fun (_ : _ = _) => ?_); (try refine fun (_ : _ ∧ _) => ?_); first | exact hp0.1 | exact hp0.2.1 | exact hp0.2.2.1 | exact hp0.2.2.2) (Z9), ?_⟩
                 have hF : Z45 a0 = (cond ((a0.verb == a0.verb) && ((decide (a0.target = a0.target)) && ((a0.num == a0.num) && ((a0.size == (0 : Int)) && ((decide (a0.zone = (⟨#[]⟩ : BA))) && ((decide (a0.node = (⟨#[]⟩ : BA))) && (decide (a0.source = a0.source)))))))) (Z3e a0.source) false) := by first | exact (Z3 h0 (Z3 h1 (Z3 h2 (Z3 h3 (Z3 h4 (Z3 h5 (Z3 h6 (Z12 h7 rfl)))))))) | simp only [Z45, h0, h1, h2, h3, h4, h5, h6, h7, cond_true, cond_false]
                 exact ⟨trivial, .inl (by (try rw [hF]); kernel_rfl), by (try rw [hF]); kernel_rfl⟩
               · have hF : Z45 a0 = false := by first | exact (Z3 h0 (Z3 h1 (Z3 h2 (Z3 h3 (Z3 h4 (Z3 h5 (Z3 h6 (Z3 h7 rfl)))))))) | simp only [Z45, h0, h1, h2, h3, h4, h5, h6, h7, cond_true, cond_false]
                 exact ⟨trivial, .inl (by (try rw [hF]); kernel_rfl), by (try rw [hF]); kernel_rfl⟩
noncomputable def Z1ac : Fact Tryz.prog := Z4b 58 Tryz.f58 (by kernel_rfl) rfl (by kernel_rfl) [.st .call] [] true (fun t u => .bool (Z45 t.1)) (fun t u => []) (fun t u => [CS t.1])
 (fun _ _ _ => rfl) (fun t u => by kernel_rfl) (fun t u => by kernel_rfl) (fun t u h => r10_RightF_tr t.1 (h _ mS))
end Go.Proofs.YtkledlcmhbjadaaGreat
