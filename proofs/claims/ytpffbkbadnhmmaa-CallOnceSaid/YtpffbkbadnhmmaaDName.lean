/- The driver: names, right calls. -/
import Derived.Test.YtpffbkbadnhmmaaDH0
set_option linter.unusedVariables false
set_option linter.unusedSimpArgs false
set_option maxRecDepth 100000
namespace Go.Proofs.Ytpffbkbadnhmmaa
open Go Go.Eng
def ckL : List (Nat × Kind) := [(2, .int .i64), (3, .int .i64), (4, .bool), (5, .int .u8), (6, .int .u8), (9, .str), (10, .str), (11, .str), (12, .int .u64), (21, .int .i32), (31, .zone), (42, .int .u64), (43, .strs), (45, .vol), (47, .int .u8), (49, .call), (50, .int .i64), (61, .snap), (63, .deed), (73, .int .u8), (75, .deed2), (120, .sn), (122, .tgt), (125, .done), (157, .done), (172, .int .u64), (174, .int .i64), (183, .int .u32), (185, .int .u64), (201, .int .u8), (202, .int .u8), (205, .int .i32), (206, .int .i32)]
def ckf : TypeId → Option Kind := fun t => ckL.lookup t
noncomputable def Z1f7 : Env := Z62 (P := Try.prog) [] [] [] ckf
def Z57 (a0 : BA) : Nat → Nat → Bool
 | 0, i => false
 | n + 1, i => cond (cond (cond (cond (cond (cond (!(cond (decide ((Z6b a0 (i : Int)) ≥ (97 : Int))) (decide ((Z6b a0 (i : Int)) ≤ (122 : Int))) false)) (!(cond (decide ((Z6b a0 (i : Int)) ≥ (48 : Int))) (decide ((Z6b a0 (i : Int)) ≤ (57 : Int))) false)) false) (!((Z6b a0 (i : Int)) == (45 : Int))) false) (!((Z6b a0 (i : Int)) == (46 : Int))) false) (!((Z6b a0 (i : Int)) == (35 : Int))) false) (!((Z6b a0 (i : Int)) == (47 : Int))) false)
  true
  (Z57 a0 n (i + 1))
def Zbb (a0 : BA) (i : Nat) : St :=
 ⟨Z9 57 [(0, .str a0), (8, .int .i64 (a0.size : Int)), (9, .int .i64 (i : Int))], []⟩
def Z130 (a0 : BA) (i : Nat) : RT :=
 (.ask (decide ((i : Int) < (a0.size : Int)))
   (.need [0 ≤ (i : Int) ∧ (i : Int) < (a0.size : Int)]
     (.ask (cond (cond (cond (cond (cond (!(cond (decide ((Z6b a0 (i : Int)) ≥ (97 : Int))) (decide ((Z6b a0 (i : Int)) ≤ (122 : Int))) false)) (!(cond (decide ((Z6b a0 (i : Int)) ≥ (48 : Int))) (decide ((Z6b a0 (i : Int)) ≤ (57 : Int))) false)) false) (!((Z6b a0 (i : Int)) == (45 : Int))) false) (!((Z6b a0 (i : Int)) == (46 : Int))) false) (!((Z6b a0 (i : Int)) == (35 : Int))) false) (!((Z6b a0 (i : Int)) == (47 : Int))) false)
       (.leaf .ret ⟨Z9 57 [(2, .bool false)], []⟩ [])
       (.leaf .normal ⟨Z9 57 [(0, .str a0), (8, .int .i64 (a0.size : Int)), (9, .int .i64 (IntKind.i64.wrap ((i : Int) + (1 : Int))))], []⟩ [])))
   (.leaf (.exit 0) ⟨Z9 57 [(0, .str a0)], []⟩ []))
def Z86 (a0 : BA) (i : Nat) : Tree :=
 .ask (Z57 a0 (a0.size - i) i) (.leaf .ret ⟨Z9 57 [(2, .bool false)], []⟩) (.leaf (.exit 0) ⟨Z9 57 [(0, .str a0)], []⟩)
theorem Z215 (a0 : BA) (hp0 : a0.size < 4611686018427387904) (hlen : a0.size < 4611686018427387904) (z : { z : Nat // z ≤ a0.size }) (Q : Exit → St → Prop) (h : (Z86 a0 z.1).All Q) : Tr Try.prog 0 (.loop (Z47 Try.f52 0)) (Zbb a0 z.1) Q := by
 refine Z61 (kok _ _ _ _ _ _) (E := Z1f7) (ι := { z : Nat // z ≤ a0.size }) 60 0 (fun _ => Z30) (fun z => Zbb a0 z.1) (fun z => Z86 a0 z.1) (fun z => Z130 a0 z.1) (fun z => a0.size - z.1) (fun _ => Z13.none) (fun z => by obtain ⟨i, hi⟩ := z; kernel_rfl) (fun z => by obtain ⟨i, hi⟩ := z; kernel_rfl) (fun z => by obtain ⟨i, hi⟩ := z; kernel_rfl) ?_ z Q h
 rintro ⟨i, hi⟩ Q hT
 replace hT : (Z86 a0 i).All Q := hT
 replace hi : i ≤ a0.size := hi
 show (Z130 a0 i).All _
 unfold Z130
 refine ⟨fun h0 => ?_, fun h0 => ?_⟩
 · have hlt : i < a0.size := by simpa using h0
   have hd : a0.size - i = (a0.size - (i + 1)) + 1 := by omega
   have hw := Z50 (i := i) (by omega)
   refine ⟨Z2 (by first | assumption | omega | ((try intro _); (try simp only [decide_eq_true_eq, decide_eq_false_iff_not, Bool.cond_false_right, Bool.cond_true_right, Bool.cond_true_left, Bool.cond_false_left, Bool.and_eq_true, Bool.or_eq_true, Bool.not_eq_true', Z16, maxLen, List.length_cons, List.length_nil, List.length_append, Z48] at *); omega)) (Z7), ?_⟩
   refine ⟨fun h1 => ?_, fun h1 => ?_⟩
   · have hF : Z57 a0 (a0.size - i) i = true := by rw [hd]; first | exact (Z11 h1 rfl) | simp only [Z57, h0, h1, cond_true, cond_false]
     unfold Z86 at hT
     rw [hF] at hT
     exact hT.1 rfl
   · have hF : Z57 a0 (a0.size - i) i = Z57 a0 (a0.size - (i + 1)) (i + 1) := by rw [hd]; first | exact (Z3 h1 rfl) | simp only [Z57, h0, h1, cond_true, cond_false]
     refine ⟨⟨(i + 1), by show (i + 1) ≤ a0.size; omega⟩, by show a0.size - (i + 1) < a0.size - i; omega, ?_, ?_⟩
     · show _ = Zbb a0 (i + 1)
       unfold Zbb
       simp only [hw]
     · show (Z86 a0 (i + 1)).All Q
       unfold Z86 at hT ⊢
       rw [hF] at hT
       exact hT
 · have hge : ¬ i < a0.size := by simpa using h0
   have hd : a0.size - i = 0 := by omega
   have hF : Z57 a0 (a0.size - i) i = false := by rw [hd]; first | exact rfl | simp only [Z57, h0, cond_true, cond_false]
   unfold Z86 at hT
   rw [hF] at hT
   exact hT.2 rfl
def Z22 (a0 : BA) : Bool :=
 cond (Z57 a0 (a0.size) 0)
  false
  (cond (!(decide (a0 = (⟨#[]⟩ : BA)))) (decide ((a0.size : Int) ≤ (40 : Int))) false)
def Z230 (a0 : BA) : RT :=
 (.ask (Z57 a0 (a0.size) 0)
   (.leaf .ret ⟨Z9 57 [(2, .bool false)], []⟩ [])
   (.leaf .ret ⟨Z9 57 [(2, .bool (cond (!(decide (a0 = (⟨#[]⟩ : BA)))) (decide ((a0.size : Int) ≤ (40 : Int))) false))], []⟩ []))
theorem object_NameF_tr (a0 : BA) (hp0 : a0.size < 4611686018427387904) : Tr Try.prog 0 (Z3b Try.f52) (Z25 Try.f52 [.str a0] []) (Z46 Try.prog Try.f52 (.bool (Z22 a0)) []) := by
 refine Z2f (kok _ _ _ _ _ _) (E := Z1f7) (L := (Z5f [(0, Zbb a0 0, [], Z86 a0 0)])) 60 9999 (Z13.one (g := Z47 Try.f52 0) (b := 0) (by kernel_rfl) (by kernel_rfl) (by kernel_rfl) (by kernel_rfl) (fun Q h => Z215 a0 hp0 (by first | assumption | omega | (simp only [List.length_cons, List.length_nil, List.length_append]; omega)) ⟨0, by first | exact Nat.zero_le _ | (show 0 ≤ a0.size; omega) | (show 0 ≤ a0.size; exact ⟨Nat.zero_le _, by assumption⟩) | (show 0 ≤ a0.size; simp)⟩ Q h)) (Z230 a0) (by kernel_rfl) (by kernel_rfl) (by kernel_rfl) ?_
 unfold Z230
 refine ⟨fun h0 => ?_, fun h0 => ?_⟩
 · have hF : Z22 a0 = false := by first | exact (Z11 h0 rfl) | simp only [Z22, h0, cond_true, cond_false]
   exact ⟨trivial, .inl (by (try rw [hF]); kernel_rfl), by (try rw [hF]); kernel_rfl⟩
 · have hF : Z22 a0 = (cond (!(decide (a0 = (⟨#[]⟩ : BA)))) (decide ((a0.size : Int) ≤ (40 : Int))) false) := by first | exact (Z3 h0 rfl) | simp only [Z22, h0, cond_true, cond_false]
   exact ⟨trivial, .inl (by (try rw [hF]); kernel_rfl), by (try rw [hF]); kernel_rfl⟩
noncomputable def Z140 : Fact Try.prog := Z4f 52 Try.f52 (by kernel_rfl) rfl (by kernel_rfl) [.c (.str)] [] true (fun t u => .bool (Z22 t.1)) (fun t u => []) (fun t u => [t.1.size < 4611686018427387904])
 (fun _ _ _ => rfl) (fun t u => by kernel_rfl) (fun t u => by kernel_rfl) (fun t u h => object_NameF_tr t.1 (h _ mS))
noncomputable def E_r03_Name : Env := Z62 (P := Try.prog) [] [] [] ckf
def Z7e (a0 : BA) : Nat → Nat → Bool
 | 0, i => false
 | n + 1, i => cond (!(cond (cond (cond (cond (cond (cond (decide ((Z6b a0 (i : Int)) ≥ (97 : Int))) (decide ((Z6b a0 (i : Int)) ≤ (122 : Int))) false) true (cond (decide ((Z6b a0 (i : Int)) ≥ (48 : Int))) (decide ((Z6b a0 (i : Int)) ≤ (57 : Int))) false)) true ((Z6b a0 (i : Int)) == (45 : Int))) true ((Z6b a0 (i : Int)) == (46 : Int))) true ((Z6b a0 (i : Int)) == (35 : Int))) true ((Z6b a0 (i : Int)) == (47 : Int))))
  true
  (Z7e a0 n (i + 1))
def Z117 (a0 : BA) (i : Nat) : St :=
 ⟨Z9 53 [(0, .str a0), (3, .int .i64 (i : Int))], []⟩
def Z213 (a0 : BA) (i : Nat) : RT :=
 (.ask (decide ((i : Int) < (a0.size : Int)))
   (.need [0 ≤ (i : Int) ∧ (i : Int) < (a0.size : Int)]
     (.ask (!(cond (cond (cond (cond (cond (cond (decide ((Z6b a0 (i : Int)) ≥ (97 : Int))) (decide ((Z6b a0 (i : Int)) ≤ (122 : Int))) false) true (cond (decide ((Z6b a0 (i : Int)) ≥ (48 : Int))) (decide ((Z6b a0 (i : Int)) ≤ (57 : Int))) false)) true ((Z6b a0 (i : Int)) == (45 : Int))) true ((Z6b a0 (i : Int)) == (46 : Int))) true ((Z6b a0 (i : Int)) == (35 : Int))) true ((Z6b a0 (i : Int)) == (47 : Int))))
       (.leaf .ret ⟨Z9 53 [(2, .bool false)], []⟩ [])
       (.leaf .normal ⟨Z9 53 [(0, .str a0), (3, .int .i64 (IntKind.i64.wrap ((i : Int) + (1 : Int))))], []⟩ [])))
   (.leaf (.exit 0) ⟨Z9 53 [(0, .str a0)], []⟩ []))
def Zb0 (a0 : BA) (i : Nat) : Tree :=
 .ask (Z7e a0 (a0.size - i) i) (.leaf .ret ⟨Z9 53 [(2, .bool false)], []⟩) (.leaf (.exit 0) ⟨Z9 53 [(0, .str a0)], []⟩)
theorem r03_NameL_loop (a0 : BA) (hp0 : a0.size < 4611686018427387904) (hlen : a0.size < 4611686018427387904) (z : { z : Nat // z ≤ a0.size }) (Q : Exit → St → Prop) (h : (Zb0 a0 z.1).All Q) : Tr Try.prog 0 (.loop (Z47 Try.f53 0)) (Z117 a0 z.1) Q := by
 refine Z61 (kok _ _ _ _ _ _) (E := E_r03_Name) (ι := { z : Nat // z ≤ a0.size }) 60 0 (fun _ => Z30) (fun z => Z117 a0 z.1) (fun z => Zb0 a0 z.1) (fun z => Z213 a0 z.1) (fun z => a0.size - z.1) (fun _ => Z13.none) (fun z => by obtain ⟨i, hi⟩ := z; kernel_rfl) (fun z => by obtain ⟨i, hi⟩ := z; kernel_rfl) (fun z => by obtain ⟨i, hi⟩ := z; kernel_rfl) ?_ z Q h
 rintro ⟨i, hi⟩ Q hT
 replace hT : (Zb0 a0 i).All Q := hT
 replace hi : i ≤ a0.size := hi
 show (Z213 a0 i).All _
 unfold Z213
 refine ⟨fun h0 => ?_, fun h0 => ?_⟩
 · have hlt : i < a0.size := by simpa using h0
   have hd : a0.size - i = (a0.size - (i + 1)) + 1 := by omega
   have hw := Z50 (i := i) (by omega)
   refine ⟨Z2 (by first | assumption | omega | ((try intro _); (try simp only [decide_eq_true_eq, decide_eq_false_iff_not, Bool.cond_false_right, Bool.cond_true_right, Bool.cond_true_left, Bool.cond_false_left, Bool.and_eq_true, Bool.or_eq_true, Bool.not_eq_true', Z16, maxLen, List.length_cons, List.length_nil, List.length_append, Z48] at *); omega)) (Z7), ?_⟩
   refine ⟨fun h1 => ?_, fun h1 => ?_⟩
   · have hF : Z7e a0 (a0.size - i) i = true := by rw [hd]; first | exact (Z11 h1 rfl) | simp only [Z7e, h0, h1, cond_true, cond_false]
     unfold Zb0 at hT
     rw [hF] at hT
     exact hT.1 rfl
   · have hF : Z7e a0 (a0.size - i) i = Z7e a0 (a0.size - (i + 1)) (i + 1) := by rw [hd]; first | exact (Z3 h1 rfl) | simp only [Z7e, h0, h1, cond_true, cond_false]
     refine ⟨⟨(i + 1), by show (i + 1) ≤ a0.size; omega⟩, by show a0.size - (i + 1) < a0.size - i; omega, ?_, ?_⟩
     · show _ = Z117 a0 (i + 1)
       unfold Z117
       simp only [hw]
     · show (Zb0 a0 (i + 1)).All Q
       unfold Zb0 at hT ⊢
       rw [hF] at hT
       exact hT
 · have hge : ¬ i < a0.size := by simpa using h0
   have hd : a0.size - i = 0 := by omega
   have hF : Z7e a0 (a0.size - i) i = false := by rw [hd]; first | exact rfl | simp only [Z7e, h0, cond_true, cond_false]
   unfold Zb0 at hT
   rw [hF] at hT
   exact hT.2 rfl
def Z45 (a0 : BA) : Bool :=
 cond (Z7e a0 (a0.size) 0)
  false
  (cond (decide ((a0.size : Int) ≥ (1 : Int))) (decide ((a0.size : Int) ≤ (40 : Int))) false)
def r03_NameR (a0 : BA) : RT :=
 (.ask (Z7e a0 (a0.size) 0)
   (.leaf .ret ⟨Z9 53 [(2, .bool false)], []⟩ [])
   (.leaf .ret ⟨Z9 53 [(2, .bool (cond (decide ((a0.size : Int) ≥ (1 : Int))) (decide ((a0.size : Int) ≤ (40 : Int))) false))], []⟩ []))
theorem r03_NameF_tr (a0 : BA) (hp0 : a0.size < 4611686018427387904) : Tr Try.prog 0 (Z3b Try.f53) (Z25 Try.f53 [.str a0] []) (Z46 Try.prog Try.f53 (.bool (Z45 a0)) []) := by
 refine Z2f (kok _ _ _ _ _ _) (E := E_r03_Name) (L := (Z5f [(0, Z117 a0 0, [], Zb0 a0 0)])) 60 9999 (Z13.one (g := Z47 Try.f53 0) (b := 0) (by kernel_rfl) (by kernel_rfl) (by kernel_rfl) (by kernel_rfl) (fun Q h => r03_NameL_loop a0 hp0 (by first | assumption | omega | (simp only [List.length_cons, List.length_nil, List.length_append]; omega)) ⟨0, by first | exact Nat.zero_le _ | (show 0 ≤ a0.size; omega) | (show 0 ≤ a0.size; exact ⟨Nat.zero_le _, by assumption⟩) | (show 0 ≤ a0.size; simp)⟩ Q h)) (r03_NameR a0) (by kernel_rfl) (by kernel_rfl) (by kernel_rfl) ?_
 unfold r03_NameR
 refine ⟨fun h0 => ?_, fun h0 => ?_⟩
 · have hF : Z45 a0 = false := by first | exact (Z11 h0 rfl) | simp only [Z45, h0, cond_true, cond_false]
   exact ⟨trivial, .inl (by (try rw [hF]); kernel_rfl), by (try rw [hF]); kernel_rfl⟩
 · have hF : Z45 a0 = (cond (decide ((a0.size : Int) ≥ (1 : Int))) (decide ((a0.size : Int) ≤ (40 : Int))) false) := by first | exact (Z3 h0 rfl) | simp only [Z45, h0, cond_true, cond_false]
   exact ⟨trivial, .inl (by (try rw [hF]); kernel_rfl), by (try rw [hF]); kernel_rfl⟩
noncomputable def Z1dd : Fact Try.prog := Z4f 53 Try.f53 (by kernel_rfl) rfl (by kernel_rfl) [.c (.str)] [] true (fun t u => .bool (Z45 t.1)) (fun t u => []) (fun t u => [t.1.size < 4611686018427387904])
 (fun _ _ _ => rfl) (fun t u => by kernel_rfl) (fun t u => by kernel_rfl) (fun t u h => r03_NameF_tr t.1 (h _ mS))
noncomputable def E_driver_Right : Env := Z62 (P := Try.prog) [Z140] [] [] ckf
def Z12 (a0 : XCall) : Bool :=
 cond (cond (cond (cond (!(Z22 a0.target)) true (a0.num == (0 : Int))) true (decide (a0.size < (0 : Int)))) true (decide (a0.size > (1125899906842624 : Int))))
  false
  (cond (a0.verb == (1 : Int))
    (cond (cond (cond (decide (a0.size > (0 : Int))) (Z22 a0.zone) false) (decide (a0.node = (⟨#[]⟩ : BA))) false) (cond (Z22 a0.source) true (decide (a0.source = (⟨#[]⟩ : BA)))) false)
    (cond (a0.verb == (2 : Int))
      (cond (cond (cond (!(decide (a0.size > (0 : Int)))) (decide (a0.zone = (⟨#[]⟩ : BA))) false) (decide (a0.node = (⟨#[]⟩ : BA))) false) (decide (a0.source = (⟨#[]⟩ : BA))) false)
      (cond (a0.verb == (7 : Int))
        (cond (cond (cond (!(decide (a0.size > (0 : Int)))) (decide (a0.zone = (⟨#[]⟩ : BA))) false) (decide (a0.node = (⟨#[]⟩ : BA))) false) (decide (a0.source = (⟨#[]⟩ : BA))) false)
        (cond (a0.verb == (3 : Int))
          (cond (cond (cond (!(decide (a0.size > (0 : Int)))) (decide (a0.zone = (⟨#[]⟩ : BA))) false) (Z22 a0.node) false) (decide (a0.source = (⟨#[]⟩ : BA))) false)
          (cond (a0.verb == (4 : Int))
            (cond (cond (cond (!(decide (a0.size > (0 : Int)))) (decide (a0.zone = (⟨#[]⟩ : BA))) false) (Z22 a0.node) false) (decide (a0.source = (⟨#[]⟩ : BA))) false)
            (cond (a0.verb == (5 : Int))
              (cond (cond (cond (decide (a0.size > (0 : Int))) (decide (a0.zone = (⟨#[]⟩ : BA))) false) (decide (a0.node = (⟨#[]⟩ : BA))) false) (decide (a0.source = (⟨#[]⟩ : BA))) false)
              (cond (a0.verb == (6 : Int))
                (cond (cond (cond (!(decide (a0.size > (0 : Int)))) (decide (a0.zone = (⟨#[]⟩ : BA))) false) (decide (a0.node = (⟨#[]⟩ : BA))) false) (Z22 a0.source) false)
                false)))))))
abbrev kNa2 (a0 : XCall) := (cond (cond (cond (!(decide (a0.size > (0 : Int)))) (decide (a0.zone = (⟨#[]⟩ : BA))) false) (Z22 a0.node) false) (decide (a0.source = (⟨#[]⟩ : BA))) false)
def Z1e8 (a0 : XCall) : RT :=
 (.need [a0.target.size < 4611686018427387904]
   (.ask (cond (cond (cond (!(Z22 a0.target)) true (a0.num == (0 : Int))) true (decide (a0.size < (0 : Int)))) true (decide (a0.size > (1125899906842624 : Int))))
     (.leaf .ret ⟨Z9 120 [(2, .bool false)], []⟩ [])
     (.need [a0.zone.size < 4611686018427387904, a0.node.size < 4611686018427387904, a0.source.size < 4611686018427387904]
       (.ask (a0.verb == (1 : Int))
         (.leaf .ret ⟨Z9 120 [(2, .bool (cond (cond (cond (decide (a0.size > (0 : Int))) (Z22 a0.zone) false) (decide (a0.node = (⟨#[]⟩ : BA))) false) (cond (Z22 a0.source) true (decide (a0.source = (⟨#[]⟩ : BA)))) false))], []⟩ [])
         (.ask (a0.verb == (2 : Int))
           (.ask true
             (.leaf .ret ⟨Z9 120 [(2, .bool (cond (cond (cond (!(decide (a0.size > (0 : Int)))) (decide (a0.zone = (⟨#[]⟩ : BA))) false) (decide (a0.node = (⟨#[]⟩ : BA))) false) (decide (a0.source = (⟨#[]⟩ : BA))) false))], []⟩ [])
             .fail)
           (.ask (a0.verb == (7 : Int))
             (.leaf .ret ⟨Z9 120 [(2, .bool (cond (cond (cond (!(decide (a0.size > (0 : Int)))) (decide (a0.zone = (⟨#[]⟩ : BA))) false) (decide (a0.node = (⟨#[]⟩ : BA))) false) (decide (a0.source = (⟨#[]⟩ : BA))) false))], []⟩ [])
             (.ask (a0.verb == (3 : Int))
               (.ask true
                 (.leaf .ret ⟨Z9 120 [(2, .bool (kNa2 a0))], []⟩ [])
                 .fail)
               (.ask (a0.verb == (4 : Int))
                 (.leaf .ret ⟨Z9 120 [(2, .bool (kNa2 a0))], []⟩ [])
                 (.ask (a0.verb == (5 : Int))
                   (.leaf .ret ⟨Z9 120 [(2, .bool (cond (cond (cond (decide (a0.size > (0 : Int))) (decide (a0.zone = (⟨#[]⟩ : BA))) false) (decide (a0.node = (⟨#[]⟩ : BA))) false) (decide (a0.source = (⟨#[]⟩ : BA))) false))], []⟩ [])
                   (.ask (a0.verb == (6 : Int))
                     (.leaf .ret ⟨Z9 120 [(2, .bool (cond (cond (cond (!(decide (a0.size > (0 : Int)))) (decide (a0.zone = (⟨#[]⟩ : BA))) false) (decide (a0.node = (⟨#[]⟩ : BA))) false) (Z22 a0.source) false))], []⟩ [])
                     (.leaf .ret ⟨Z9 120 [(2, .bool false)], []⟩ [])))))))))))
theorem Z244 (a0 : XCall) (hp0 : CS a0) : Tr Try.prog 0 (Z3b Try.f30) (Z25 Try.f30 [.agg (cc a0)] []) (Z46 Try.prog Try.f30 (.bool (Z12 a0)) []) := by
 refine Z2f (kok _ _ _ _ _ _) (E := E_driver_Right) (L := Z30) 60 9999 Z13.none (Z1e8 a0) (by kernel_rfl) (by kernel_rfl) (by kernel_rfl) ?_
 unfold Z1e8
 refine ⟨Z2 (by (try refine fun (_ : _ = _) => ?_); (try refine fun (_ : _ ∧ _) => ?_); first | exact hp0.1 | exact hp0.2.1 | exact hp0.2.2.1 | exact hp0.2.2.2) (Z7), ?_⟩
 refine ⟨fun h0 => ?_, fun h0 => ?_⟩
 · have hF : Z12 a0 = false := by first | exact (Z11 h0 rfl) | simp only [Z12, h0, cond_true, cond_false]
   exact ⟨trivial, .inl (by (try rw [hF]); kernel_rfl), by (try rw [hF]); kernel_rfl⟩
 · refine ⟨(by (iterate 3 refine Z2 (by (try refine fun (_ : _ = _) => ?_); (try refine fun (_ : _ ∧ _) => ?_); first | exact hp0.1 | exact hp0.2.1 | exact hp0.2.2.1 | exact hp0.2.2.2) ?_); exact Z7), ?_⟩
   refine ⟨fun h1 => ?_, fun h1 => ?_⟩
   · have hF : Z12 a0 = (cond (cond (cond (decide (a0.size > (0 : Int))) (Z22 a0.zone) false) (decide (a0.node = (⟨#[]⟩ : BA))) false) (cond (Z22 a0.source) true (decide (a0.source = (⟨#[]⟩ : BA)))) false) := by first | exact (Z3 h0 (Z11 h1 rfl)) | simp only [Z12, h0, h1, cond_true, cond_false]
     exact ⟨trivial, .inl (by (try rw [hF]); kernel_rfl), by (try rw [hF]); kernel_rfl⟩
   · refine ⟨fun h2 => ?_, fun h2 => ?_⟩
     · refine ⟨fun h3 => ?_, fun h3 => ?_⟩
       · have hF : Z12 a0 = (cond (cond (cond (!(decide (a0.size > (0 : Int)))) (decide (a0.zone = (⟨#[]⟩ : BA))) false) (decide (a0.node = (⟨#[]⟩ : BA))) false) (decide (a0.source = (⟨#[]⟩ : BA))) false) := by first | exact (Z3 h0 (Z3 h1 (Z11 h2 rfl))) | simp only [Z12, h0, h1, h2, h3, cond_true, cond_false]
         exact ⟨trivial, .inl (by (try rw [hF]); kernel_rfl), by (try rw [hF]); kernel_rfl⟩
       · exact absurd h3 (by simp)
     · refine ⟨fun h3 => ?_, fun h3 => ?_⟩
       · have hF : Z12 a0 = (cond (cond (cond (!(decide (a0.size > (0 : Int)))) (decide (a0.zone = (⟨#[]⟩ : BA))) false) (decide (a0.node = (⟨#[]⟩ : BA))) false) (decide (a0.source = (⟨#[]⟩ : BA))) false) := by first | exact (Z3 h0 (Z3 h1 (Z3 h2 (Z11 h3 rfl)))) | simp only [Z12, h0, h1, h2, h3, cond_true, cond_false]
         exact ⟨trivial, .inl (by (try rw [hF]); kernel_rfl), by (try rw [hF]); kernel_rfl⟩
       · refine ⟨fun h4 => ?_, fun h4 => ?_⟩
         · refine ⟨fun h5 => ?_, fun h5 => ?_⟩
           · have hF : Z12 a0 = (kNa2 a0) := by first | exact (Z3 h0 (Z3 h1 (Z3 h2 (Z3 h3 (Z11 h4 rfl))))) | simp only [Z12, h0, h1, h2, h3, h4, h5, cond_true, cond_false]
             exact ⟨trivial, .inl (by (try rw [hF]); kernel_rfl), by (try rw [hF]); kernel_rfl⟩
           · exact absurd h5 (by simp)
         · refine ⟨fun h5 => ?_, fun h5 => ?_⟩
           · have hF : Z12 a0 = (kNa2 a0) := by first | exact (Z3 h0 (Z3 h1 (Z3 h2 (Z3 h3 (Z3 h4 (Z11 h5 rfl)))))) | simp only [Z12, h0, h1, h2, h3, h4, h5, cond_true, cond_false]
             exact ⟨trivial, .inl (by (try rw [hF]); kernel_rfl), by (try rw [hF]); kernel_rfl⟩
           · refine ⟨fun h6 => ?_, fun h6 => ?_⟩
             · have hF : Z12 a0 = (cond (cond (cond (decide (a0.size > (0 : Int))) (decide (a0.zone = (⟨#[]⟩ : BA))) false) (decide (a0.node = (⟨#[]⟩ : BA))) false) (decide (a0.source = (⟨#[]⟩ : BA))) false) := by first | exact (Z3 h0 (Z3 h1 (Z3 h2 (Z3 h3 (Z3 h4 (Z3 h5 (Z11 h6 rfl))))))) | simp only [Z12, h0, h1, h2, h3, h4, h5, h6, cond_true, cond_false]
               exact ⟨trivial, .inl (by (try rw [hF]); kernel_rfl), by (try rw [hF]); kernel_rfl⟩
             · refine ⟨fun h7 => ?_, fun h7 => ?_⟩
               · have hF : Z12 a0 = (cond (cond (cond (!(decide (a0.size > (0 : Int)))) (decide (a0.zone = (⟨#[]⟩ : BA))) false) (decide (a0.node = (⟨#[]⟩ : BA))) false) (Z22 a0.source) false) := by first | exact (Z3 h0 (Z3 h1 (Z3 h2 (Z3 h3 (Z3 h4 (Z3 h5 (Z3 h6 (Z11 h7 rfl)))))))) | simp only [Z12, h0, h1, h2, h3, h4, h5, h6, h7, cond_true, cond_false]
                 exact ⟨trivial, .inl (by (try rw [hF]); kernel_rfl), by (try rw [hF]); kernel_rfl⟩
               · have hF : Z12 a0 = false := by first | exact (Z3 h0 (Z3 h1 (Z3 h2 (Z3 h3 (Z3 h4 (Z3 h5 (Z3 h6 (Z3 h7 rfl)))))))) | simp only [Z12, h0, h1, h2, h3, h4, h5, h6, h7, cond_true, cond_false]
                 exact ⟨trivial, .inl (by (try rw [hF]); kernel_rfl), by (try rw [hF]); kernel_rfl⟩
noncomputable def Z11c : Fact Try.prog := Z4f 30 Try.f30 (by kernel_rfl) rfl (by kernel_rfl) [.st .call] [] true (fun t u => .bool (Z12 t.1)) (fun t u => []) (fun t u => [CS t.1])
 (fun _ _ _ => rfl) (fun t u => by kernel_rfl) (fun t u => by kernel_rfl) (fun t u h => Z244 t.1 (h _ mS))
noncomputable def E_r10_Right : Env := Z62 (P := Try.prog) [Z1dd] [] [] ckf
def Z42 (a0 : XCall) : Bool :=
 cond (cond (cond (cond (!(Z45 a0.target)) true (a0.num == (0 : Int))) true (decide (a0.size < (0 : Int)))) true (decide (a0.size > (1125899906842624 : Int))))
  false
  (cond (a0.verb == (1 : Int))
    (cond (cond (cond ((a0.verb == a0.verb) && ((decide (a0.target = a0.target)) && ((a0.num == a0.num) && ((a0.size == a0.size) && ((decide (a0.zone = a0.zone)) && ((decide (a0.node = (⟨#[]⟩ : BA))) && (decide (a0.source = a0.source)))))))) (decide (a0.size > (0 : Int))) false) (Z45 a0.zone) false) (cond (decide (a0.source = (⟨#[]⟩ : BA))) true (Z45 a0.source)) false)
    (cond (a0.verb == (2 : Int))
      ((a0.verb == a0.verb) && ((decide (a0.target = a0.target)) && ((a0.num == a0.num) && ((a0.size == (0 : Int)) && ((decide (a0.zone = (⟨#[]⟩ : BA))) && ((decide (a0.node = (⟨#[]⟩ : BA))) && (decide (a0.source = (⟨#[]⟩ : BA)))))))))
      (cond (a0.verb == (7 : Int))
        ((a0.verb == a0.verb) && ((decide (a0.target = a0.target)) && ((a0.num == a0.num) && ((a0.size == (0 : Int)) && ((decide (a0.zone = (⟨#[]⟩ : BA))) && ((decide (a0.node = (⟨#[]⟩ : BA))) && (decide (a0.source = (⟨#[]⟩ : BA)))))))))
        (cond (a0.verb == (3 : Int))
          (cond ((a0.verb == a0.verb) && ((decide (a0.target = a0.target)) && ((a0.num == a0.num) && ((a0.size == (0 : Int)) && ((decide (a0.zone = (⟨#[]⟩ : BA))) && ((decide (a0.node = a0.node)) && (decide (a0.source = (⟨#[]⟩ : BA))))))))) (Z45 a0.node) false)
          (cond (a0.verb == (4 : Int))
            (cond ((a0.verb == a0.verb) && ((decide (a0.target = a0.target)) && ((a0.num == a0.num) && ((a0.size == (0 : Int)) && ((decide (a0.zone = (⟨#[]⟩ : BA))) && ((decide (a0.node = a0.node)) && (decide (a0.source = (⟨#[]⟩ : BA))))))))) (Z45 a0.node) false)
            (cond (a0.verb == (5 : Int))
              (cond ((a0.verb == a0.verb) && ((decide (a0.target = a0.target)) && ((a0.num == a0.num) && ((a0.size == a0.size) && ((decide (a0.zone = (⟨#[]⟩ : BA))) && ((decide (a0.node = (⟨#[]⟩ : BA))) && (decide (a0.source = (⟨#[]⟩ : BA))))))))) (decide (a0.size > (0 : Int))) false)
              (cond (a0.verb == (6 : Int))
                (cond ((a0.verb == a0.verb) && ((decide (a0.target = a0.target)) && ((a0.num == a0.num) && ((a0.size == (0 : Int)) && ((decide (a0.zone = (⟨#[]⟩ : BA))) && ((decide (a0.node = (⟨#[]⟩ : BA))) && (decide (a0.source = a0.source)))))))) (Z45 a0.source) false)
                false)))))))
abbrev kNa0 (a0 : XCall) := (cond ((a0.verb == a0.verb) && ((decide (a0.target = a0.target)) && ((a0.num == a0.num) && ((a0.size == (0 : Int)) && ((decide (a0.zone = (⟨#[]⟩ : BA))) && ((decide (a0.node = a0.node)) && (decide (a0.source = (⟨#[]⟩ : BA))))))))) (Z45 a0.node) false)
abbrev kNa1 (a0 : XCall) := (cond (cond ((a0.verb == a0.verb) && ((decide (a0.target = a0.target)) && ((a0.num == a0.num) && ((a0.size == a0.size) && ((decide (a0.zone = a0.zone)) && ((decide (a0.node = (⟨#[]⟩ : BA))) && (decide (a0.source = a0.source)))))))) (decide (a0.size > (0 : Int))) false) (Z45 a0.zone) false)
def r10_RightR (a0 : XCall) : RT :=
 (.need [a0.target.size < 4611686018427387904]
   (.ask (cond (cond (cond (!(Z45 a0.target)) true (a0.num == (0 : Int))) true (decide (a0.size < (0 : Int)))) true (decide (a0.size > (1125899906842624 : Int))))
     (.leaf .ret ⟨Z9 112 [(2, .bool false)], []⟩ [])
     (.ask (a0.verb == (1 : Int))
       (.need [((cond ((a0.verb == a0.verb) && ((decide (a0.target = a0.target)) && ((a0.num == a0.num) && ((a0.size == a0.size) && ((decide (a0.zone = a0.zone)) && ((decide (a0.node = (⟨#[]⟩ : BA))) && (decide (a0.source = a0.source)))))))) (decide (a0.size > (0 : Int))) false) = true) → (a0.zone.size < 4611686018427387904)]
         (.need [(((kNa1 a0) = true) ∧ (decide (a0.source = (⟨#[]⟩ : BA))) = false) → (a0.source.size < 4611686018427387904)]
           (.leaf .ret ⟨Z9 112 [(2, .bool (cond (kNa1 a0) (cond (decide (a0.source = (⟨#[]⟩ : BA))) true (Z45 a0.source)) false))], []⟩ [])))
       (.ask (a0.verb == (2 : Int))
         (.ask true
           (.leaf .ret ⟨Z9 112 [(2, .bool ((a0.verb == a0.verb) && ((decide (a0.target = a0.target)) && ((a0.num == a0.num) && ((a0.size == (0 : Int)) && ((decide (a0.zone = (⟨#[]⟩ : BA))) && ((decide (a0.node = (⟨#[]⟩ : BA))) && (decide (a0.source = (⟨#[]⟩ : BA))))))))))], []⟩ [])
           .fail)
         (.ask (a0.verb == (7 : Int))
           (.leaf .ret ⟨Z9 112 [(2, .bool ((a0.verb == a0.verb) && ((decide (a0.target = a0.target)) && ((a0.num == a0.num) && ((a0.size == (0 : Int)) && ((decide (a0.zone = (⟨#[]⟩ : BA))) && ((decide (a0.node = (⟨#[]⟩ : BA))) && (decide (a0.source = (⟨#[]⟩ : BA))))))))))], []⟩ [])
           (.ask (a0.verb == (3 : Int))
             (.ask true
               (.need [(((a0.verb == a0.verb) && ((decide (a0.target = a0.target)) && ((a0.num == a0.num) && ((a0.size == (0 : Int)) && ((decide (a0.zone = (⟨#[]⟩ : BA))) && ((decide (a0.node = a0.node)) && (decide (a0.source = (⟨#[]⟩ : BA))))))))) = true) → (a0.node.size < 4611686018427387904)]
                 (.leaf .ret ⟨Z9 112 [(2, .bool (kNa0 a0))], []⟩ []))
               .fail)
             (.ask (a0.verb == (4 : Int))
               (.need [(((a0.verb == a0.verb) && ((decide (a0.target = a0.target)) && ((a0.num == a0.num) && ((a0.size == (0 : Int)) && ((decide (a0.zone = (⟨#[]⟩ : BA))) && ((decide (a0.node = a0.node)) && (decide (a0.source = (⟨#[]⟩ : BA))))))))) = true) → (a0.node.size < 4611686018427387904)]
                 (.leaf .ret ⟨Z9 112 [(2, .bool (kNa0 a0))], []⟩ []))
               (.ask (a0.verb == (5 : Int))
                 (.leaf .ret ⟨Z9 112 [(2, .bool (cond ((a0.verb == a0.verb) && ((decide (a0.target = a0.target)) && ((a0.num == a0.num) && ((a0.size == a0.size) && ((decide (a0.zone = (⟨#[]⟩ : BA))) && ((decide (a0.node = (⟨#[]⟩ : BA))) && (decide (a0.source = (⟨#[]⟩ : BA))))))))) (decide (a0.size > (0 : Int))) false))], []⟩ [])
                 (.ask (a0.verb == (6 : Int))
                   (.need [(((a0.verb == a0.verb) && ((decide (a0.target = a0.target)) && ((a0.num == a0.num) && ((a0.size == (0 : Int)) && ((decide (a0.zone = (⟨#[]⟩ : BA))) && ((decide (a0.node = (⟨#[]⟩ : BA))) && (decide (a0.source = a0.source)))))))) = true) → (a0.source.size < 4611686018427387904)]
                     (.leaf .ret ⟨Z9 112 [(2, .bool (cond ((a0.verb == a0.verb) && ((decide (a0.target = a0.target)) && ((a0.num == a0.num) && ((a0.size == (0 : Int)) && ((decide (a0.zone = (⟨#[]⟩ : BA))) && ((decide (a0.node = (⟨#[]⟩ : BA))) && (decide (a0.source = a0.source)))))))) (Z45 a0.source) false))], []⟩ []))
                   (.leaf .ret ⟨Z9 112 [(2, .bool false)], []⟩ []))))))))))
theorem r10_RightF_tr (a0 : XCall) (hp0 : CS a0) : Tr Try.prog 0 (Z3b Try.f31) (Z25 Try.f31 [.agg (cc a0)] []) (Z46 Try.prog Try.f31 (.bool (Z42 a0)) []) := by
 refine Z2f (kok _ _ _ _ _ _) (E := E_r10_Right) (L := Z30) 60 9999 Z13.none (r10_RightR a0) (by kernel_rfl) (by kernel_rfl) (by kernel_rfl) ?_
 unfold r10_RightR
 refine ⟨Z2 (by (try refine fun (_ : _ = _) => ?_); (try refine fun (_ : _ ∧ _) => ?_); first | exact hp0.1 | exact hp0.2.1 | exact hp0.2.2.1 | exact hp0.2.2.2) (Z7), ?_⟩
 refine ⟨fun h0 => ?_, fun h0 => ?_⟩
 · have hF : Z42 a0 = false := by first | exact (Z11 h0 rfl) | simp only [Z42, h0, cond_true, cond_false]
   exact ⟨trivial, .inl (by (try rw [hF]); kernel_rfl), by (try rw [hF]); kernel_rfl⟩
 · refine ⟨fun h1 => ?_, fun h1 => ?_⟩
   · refine ⟨Z2 (by (try refine fun (_ : _ = _) => ?_); (try refine fun (_ : _ ∧ _) => ?_); first | exact hp0.1 | exact hp0.2.1 | exact hp0.2.2.1 | exact hp0.2.2.2) (Z7), ?_⟩
     refine ⟨Z2 (by (try refine fun (_ : _ = _) => ?_); (try refine fun (_ : _ ∧ _) => ?_); first | exact hp0.1 | exact hp0.2.1 | exact hp0.2.2.1 | exact hp0.2.2.2) (Z7), ?_⟩
     have hF : Z42 a0 = (cond (kNa1 a0) (cond (decide (a0.source = (⟨#[]⟩ : BA))) true (Z45 a0.source)) false) := by first | exact (Z3 h0 (Z11 h1 rfl)) | simp only [Z42, h0, h1, cond_true, cond_false]
     exact ⟨trivial, .inl (by (try rw [hF]); kernel_rfl), by (try rw [hF]); kernel_rfl⟩
   · refine ⟨fun h2 => ?_, fun h2 => ?_⟩
     · refine ⟨fun h3 => ?_, fun h3 => ?_⟩
       · have hF : Z42 a0 = ((a0.verb == a0.verb) && ((decide (a0.target = a0.target)) && ((a0.num == a0.num) && ((a0.size == (0 : Int)) && ((decide (a0.zone = (⟨#[]⟩ : BA))) && ((decide (a0.node = (⟨#[]⟩ : BA))) && (decide (a0.source = (⟨#[]⟩ : BA))))))))) := by first | exact (Z3 h0 (Z3 h1 (Z11 h2 rfl))) | simp only [Z42, h0, h1, h2, h3, cond_true, cond_false]
         exact ⟨trivial, .inl (by (try rw [hF]); kernel_rfl), by (try rw [hF]); kernel_rfl⟩
       · exact absurd h3 (by simp)
     · refine ⟨fun h3 => ?_, fun h3 => ?_⟩
       · have hF : Z42 a0 = ((a0.verb == a0.verb) && ((decide (a0.target = a0.target)) && ((a0.num == a0.num) && ((a0.size == (0 : Int)) && ((decide (a0.zone = (⟨#[]⟩ : BA))) && ((decide (a0.node = (⟨#[]⟩ : BA))) && (decide (a0.source = (⟨#[]⟩ : BA))))))))) := by first | exact (Z3 h0 (Z3 h1 (Z3 h2 (Z11 h3 rfl)))) | simp only [Z42, h0, h1, h2, h3, cond_true, cond_false]
         exact ⟨trivial, .inl (by (try rw [hF]); kernel_rfl), by (try rw [hF]); kernel_rfl⟩
       · refine ⟨fun h4 => ?_, fun h4 => ?_⟩
         · refine ⟨fun h5 => ?_, fun h5 => ?_⟩
           · refine ⟨Z2 (by (try refine fun (_ : _ = _) => ?_); (try refine fun (_ : _ ∧ _) => ?_); first | exact hp0.1 | exact hp0.2.1 | exact hp0.2.2.1 | exact hp0.2.2.2) (Z7), ?_⟩
             have hF : Z42 a0 = (kNa0 a0) := by first | exact (Z3 h0 (Z3 h1 (Z3 h2 (Z3 h3 (Z11 h4 rfl))))) | simp only [Z42, h0, h1, h2, h3, h4, h5, cond_true, cond_false]
             exact ⟨trivial, .inl (by (try rw [hF]); kernel_rfl), by (try rw [hF]); kernel_rfl⟩
           · exact absurd h5 (by simp)
         · refine ⟨fun h5 => ?_, fun h5 => ?_⟩
           · refine ⟨Z2 (by (try refine fun (_ : _ = _) => ?_); (try refine fun (_ : _ ∧ _) => ?_); first | exact hp0.1 | exact hp0.2.1 | exact hp0.2.2.1 | exact hp0.2.2.2) (Z7), ?_⟩
             have hF : Z42 a0 = (kNa0 a0) := by first | exact (Z3 h0 (Z3 h1 (Z3 h2 (Z3 h3 (Z3 h4 (Z11 h5 rfl)))))) | simp only [Z42, h0, h1, h2, h3, h4, h5, cond_true, cond_false]
             exact ⟨trivial, .inl (by (try rw [hF]); kernel_rfl), by (try rw [hF]); kernel_rfl⟩
           · refine ⟨fun h6 => ?_, fun h6 => ?_⟩
             · have hF : Z42 a0 = (cond ((a0.verb == a0.verb) && ((decide (a0.target = a0.target)) && ((a0.num == a0.num) && ((a0.size == a0.size) && ((decide (a0.zone = (⟨#[]⟩ : BA))) && ((decide (a0.node = (⟨#[]⟩ : BA))) && (decide (a0.source = (⟨#[]⟩ : BA))))))))) (decide (a0.size > (0 : Int))) false) := by first | exact (Z3 h0 (Z3 h1 (Z3 h2 (Z3 h3 (Z3 h4 (Z3 h5 (Z11 h6 rfl))))))) | simp only [Z42, h0, h1, h2, h3, h4, h5, h6, cond_true, cond_false]
               exact ⟨trivial, .inl (by (try rw [hF]); kernel_rfl), by (try rw [hF]); kernel_rfl⟩
             · refine ⟨fun h7 => ?_, fun h7 => ?_⟩
               · refine ⟨Z2 (by (try refine fun (_ : _ = _) => ?_); (try refine fun (_ : _ ∧ _) => ?_); first | exact hp0.1 | exact hp0.2.1 | exact hp0.2.2.1 | exact hp0.2.2.2) (Z7), ?_⟩
                 have hF : Z42 a0 = (cond ((a0.verb == a0.verb) && ((decide (a0.target = a0.target)) && ((a0.num == a0.num) && ((a0.size == (0 : Int)) && ((decide (a0.zone = (⟨#[]⟩ : BA))) && ((decide (a0.node = (⟨#[]⟩ : BA))) && (decide (a0.source = a0.source)))))))) (Z45 a0.source) false) := by first | exact (Z3 h0 (Z3 h1 (Z3 h2 (Z3 h3 (Z3 h4 (Z3 h5 (Z3 h6 (Z11 h7 rfl)))))))) | simp only [Z42, h0, h1, h2, h3, h4, h5, h6, h7, cond_true, cond_false]
                 exact ⟨trivial, .inl (by (try rw [hF]); kernel_rfl), by (try rw [hF]); kernel_rfl⟩
               · have hF : Z42 a0 = false := by first | exact (Z3 h0 (Z3 h1 (Z3 h2 (Z3 h3 (Z3 h4 (Z3 h5 (Z3 h6 (Z3 h7 rfl)))))))) | simp only [Z42, h0, h1, h2, h3, h4, h5, h6, h7, cond_true, cond_false]
                 exact ⟨trivial, .inl (by (try rw [hF]); kernel_rfl), by (try rw [hF]); kernel_rfl⟩
noncomputable def Z1a4 : Fact Try.prog := Z4f 31 Try.f31 (by kernel_rfl) rfl (by kernel_rfl) [.st .call] [] true (fun t u => .bool (Z42 t.1)) (fun t u => []) (fun t u => [CS t.1])
 (fun _ _ _ => rfl) (fun t u => by kernel_rfl) (fun t u => by kernel_rfl) (fun t u h => r10_RightF_tr t.1 (h _ mS))
end Go.Proofs.Ytpffbkbadnhmmaa
