/- The driver: names, right calls. -/
import Derived.Test.YtkledlcmhbjadaaGreatDoorDOf
import Derived.Test.YtkledlcmhbjadaaGreatDoorDH0
set_option linter.unusedVariables false
set_option linter.unusedSimpArgs false
set_option maxRecDepth 100000
namespace Go.Proofs.YtkledlcmhbjadaaGreatDoor
open Go Go.Eng
noncomputable def Z22a : Env := Z57 (P := Tryz.prog) [] [] [] ckf
def Z6f (a0 : ByteArray) : Nat → Nat → Bool
 | 0, i => false
 | n + 1, i => cond (cond (cond (cond (cond (cond (!(cond (decide ((Zaf a0 (i : Int)) ≥ (97 : Int))) (decide ((Zaf a0 (i : Int)) ≤ (122 : Int))) false)) (!(cond (decide ((Zaf a0 (i : Int)) ≥ (48 : Int))) (decide ((Zaf a0 (i : Int)) ≤ (57 : Int))) false)) false) (!((Zaf a0 (i : Int)) == (45 : Int))) false) (!((Zaf a0 (i : Int)) == (46 : Int))) false) (!((Zaf a0 (i : Int)) == (35 : Int))) false) (!((Zaf a0 (i : Int)) == (47 : Int))) false)
  true
  (Z6f a0 n (i + 1))
def Zc1 (a0 : ByteArray) (i : Nat) : St :=
 ⟨Z9 57 [(0, .str a0), (8, .int .i64 (a0.size : Int)), (9, .int .i64 (i : Int))], []⟩
def Z156 (a0 : ByteArray) (i : Nat) : RT :=
 (.ask (decide ((i : Int) < (a0.size : Int)))
   (.need [0 ≤ (i : Int) ∧ (i : Int) < (a0.size : Int)]
     (.ask (cond (cond (cond (cond (cond (!(cond (decide ((Zaf a0 (i : Int)) ≥ (97 : Int))) (decide ((Zaf a0 (i : Int)) ≤ (122 : Int))) false)) (!(cond (decide ((Zaf a0 (i : Int)) ≥ (48 : Int))) (decide ((Zaf a0 (i : Int)) ≤ (57 : Int))) false)) false) (!((Zaf a0 (i : Int)) == (45 : Int))) false) (!((Zaf a0 (i : Int)) == (46 : Int))) false) (!((Zaf a0 (i : Int)) == (35 : Int))) false) (!((Zaf a0 (i : Int)) == (47 : Int))) false)
       (.leaf .ret ⟨Z9 57 [(2, .bool false)], []⟩ [])
       (.leaf .normal ⟨Z9 57 [(0, .str a0), (8, .int .i64 (a0.size : Int)), (9, .int .i64 (IntKind.i64.wrap ((i : Int) + (1 : Int))))], []⟩ [])))
   (.leaf (.exit 0) ⟨Z9 57 [(0, .str a0)], []⟩ []))
def Z8d (a0 : ByteArray) (i : Nat) : Tree :=
 .ask (Z6f a0 (a0.size - i) i) (.leaf .ret ⟨Z9 57 [(2, .bool false)], []⟩) (.leaf (.exit 0) ⟨Z9 57 [(0, .str a0)], []⟩)
theorem Z240 (a0 : ByteArray) (hp0 : a0.size < 4611686018427387904) (hlen : a0.size < 4611686018427387904) (z : { z : Nat // z ≤ a0.size }) (Q : Exit → St → Prop) (h : (Z8d a0 z.1).All Q) : Tr Tryz.prog 0 (.loop (Z49 Tryz.f37 0)) (Zc1 a0 z.1) Q := by
 refine Z98 (kok _ _ _ _ _ _) (E := Z22a) (ι := { z : Nat // z ≤ a0.size }) 60 0 (fun _ => Z2a) (fun z => Zc1 a0 z.1) (fun z => Z8d a0 z.1) (fun z => Z156 a0 z.1) (fun z => a0.size - z.1) (fun _ => Z14.none) (fun z => by obtain ⟨i, hi⟩ := z; kernel_rfl) (fun z => by obtain ⟨i, hi⟩ := z; kernel_rfl) (fun z => by obtain ⟨i, hi⟩ := z; kernel_rfl) ?_ z Q h
 rintro ⟨i, hi⟩ Q hT
 replace hT : (Z8d a0 i).All Q := hT
 replace hi : i ≤ a0.size := hi
 show (Z156 a0 i).All _
 unfold Z156
 refine ⟨fun h0 => ?_, fun h0 => ?_⟩
 · have hlt : i < a0.size := by simpa using h0
   have hd : a0.size - i = (a0.size - (i + 1)) + 1 := by omega
   have hw := Z85 (i := i) (by omega)
   refine ⟨Z6 (by first | assumption | omega | ((try intro _); (try simp only [decide_eq_true_eq, decide_eq_false_iff_not, Bool.cond_false_right, Bool.cond_true_right, Bool.cond_true_left, Bool.cond_false_left, Bool.and_eq_true, Bool.or_eq_true, Bool.not_eq_true', Z35, maxLen, List.length_cons, List.length_nil, List.length_append, Z28] at *); omega)) (Z10), ?_⟩
   refine ⟨fun h1 => ?_, fun h1 => ?_⟩
   · have hF : Z6f a0 (a0.size - i) i = true := by rw [hd]; first | exact (Zb h1 rfl) | simp only [Z6f, h0, h1, cond_true, cond_false]
     unfold Z8d at hT
     rw [hF] at hT
     exact hT.1 rfl
   · have hF : Z6f a0 (a0.size - i) i = Z6f a0 (a0.size - (i + 1)) (i + 1) := by rw [hd]; first | exact (Z5 h1 rfl) | simp only [Z6f, h0, h1, cond_true, cond_false]
     refine ⟨⟨(i + 1), by show (i + 1) ≤ a0.size; omega⟩, by show a0.size - (i + 1) < a0.size - i; omega, ?_, ?_⟩
     · show _ = Zc1 a0 (i + 1)
       unfold Zc1
       simp only [hw]
     · show (Z8d a0 (i + 1)).All Q
       unfold Z8d at hT ⊢
       rw [hF] at hT
       exact hT
 · have hge : ¬ i < a0.size := by simpa using h0
   have hd : a0.size - i = 0 := by omega
   have hF : Z6f a0 (a0.size - i) i = false := by rw [hd]; first | exact rfl | simp only [Z6f, h0, cond_true, cond_false]
   unfold Z8d at hT
   rw [hF] at hT
   exact hT.2 rfl
def Z31 (a0 : ByteArray) : Bool :=
 cond (Z6f a0 (a0.size) 0)
  false
  (cond (!(decide (a0 = (⟨#[]⟩ : ByteArray)))) (decide ((a0.size : Int) ≤ (40 : Int))) false)
def Z259 (a0 : ByteArray) : RT :=
 (.ask (Z6f a0 (a0.size) 0)
   (.leaf .ret ⟨Z9 57 [(2, .bool false)], []⟩ [])
   (.leaf .ret ⟨Z9 57 [(2, .bool (cond (!(decide (a0 = (⟨#[]⟩ : ByteArray)))) (decide ((a0.size : Int) ≤ (40 : Int))) false))], []⟩ []))
theorem object_NameF_tr (a0 : ByteArray) (hp0 : a0.size < 4611686018427387904) : Tr Tryz.prog 0 (Z3a Tryz.f37) (Z1f Tryz.f37 [.str a0] []) (Z4a Tryz.prog Tryz.f37 (.bool (Z31 a0)) []) := by
 refine Z20 (kok _ _ _ _ _ _) (E := Z22a) (L := (Z61 [(0, Zc1 a0 0, [], Z8d a0 0)])) 60 9999 (Z14.one (g := Z49 Tryz.f37 0) (b := 0) (by kernel_rfl) (by kernel_rfl) (by kernel_rfl) (by kernel_rfl) (fun Q h => Z240 a0 hp0 (by first | assumption | omega | (simp only [List.length_cons, List.length_nil, List.length_append]; omega)) ⟨0, by first | exact Nat.zero_le _ | (show 0 ≤ a0.size; omega) | (show 0 ≤ a0.size; exact ⟨Nat.zero_le _, by assumption⟩) | (show 0 ≤ a0.size; simp)⟩ Q h)) (Z259 a0) (by kernel_rfl) (by kernel_rfl) (by kernel_rfl) ?_
 unfold Z259
 refine ⟨fun h0 => ?_, fun h0 => ?_⟩
 · have hF : Z31 a0 = false := by first | exact (Zb h0 rfl) | simp only [Z31, h0, cond_true, cond_false]
   exact ⟨trivial, .inl (by (try rw [hF]); kernel_rfl), by (try rw [hF]); kernel_rfl⟩
 · have hF : Z31 a0 = (cond (!(decide (a0 = (⟨#[]⟩ : ByteArray)))) (decide ((a0.size : Int) ≤ (40 : Int))) false) := by first | exact (Z5 h0 rfl) | simp only [Z31, h0, cond_true, cond_false]
   exact ⟨trivial, .inl (by (try rw [hF]); kernel_rfl), by (try rw [hF]); kernel_rfl⟩
noncomputable def Z16b : Fact Tryz.prog := Z50 37 Tryz.f37 (by kernel_rfl) rfl (by kernel_rfl) [.c (.str)] [] true (fun t u => .bool (Z31 t.1)) (fun t u => []) (fun t u => [t.1.size < 4611686018427387904])
 (fun _ _ _ => rfl) (fun t u => by kernel_rfl) (fun t u => by kernel_rfl) (fun t u h => object_NameF_tr t.1 (h _ List.mem_cons_self))
noncomputable def E_driver_Right : Env := Z57 (P := Tryz.prog) [Z16b] [] [] ckf
def Z32 (a0 : XCall) : Bool :=
 cond (cond (cond (cond (!(Z31 a0.target)) true (a0.num == (0 : Int))) true (decide (a0.size < (0 : Int)))) true (decide (a0.size > (1125899906842624 : Int))))
  false
  (cond (a0.verb == (1 : Int))
    (cond (cond (cond (decide (a0.size > (0 : Int))) (Z31 a0.zone) false) (decide (a0.node = (⟨#[]⟩ : ByteArray))) false) (cond (Z31 a0.source) true (decide (a0.source = (⟨#[]⟩ : ByteArray)))) false)
    (cond (a0.verb == (2 : Int))
      (cond (cond (cond (!(decide (a0.size > (0 : Int)))) (decide (a0.zone = (⟨#[]⟩ : ByteArray))) false) (decide (a0.node = (⟨#[]⟩ : ByteArray))) false) (decide (a0.source = (⟨#[]⟩ : ByteArray))) false)
      (cond (a0.verb == (7 : Int))
        (cond (cond (cond (!(decide (a0.size > (0 : Int)))) (decide (a0.zone = (⟨#[]⟩ : ByteArray))) false) (decide (a0.node = (⟨#[]⟩ : ByteArray))) false) (decide (a0.source = (⟨#[]⟩ : ByteArray))) false)
        (cond (a0.verb == (3 : Int))
          (cond (cond (cond (!(decide (a0.size > (0 : Int)))) (decide (a0.zone = (⟨#[]⟩ : ByteArray))) false) (Z31 a0.node) false) (decide (a0.source = (⟨#[]⟩ : ByteArray))) false)
          (cond (a0.verb == (4 : Int))
            (cond (cond (cond (!(decide (a0.size > (0 : Int)))) (decide (a0.zone = (⟨#[]⟩ : ByteArray))) false) (Z31 a0.node) false) (decide (a0.source = (⟨#[]⟩ : ByteArray))) false)
            (cond (a0.verb == (5 : Int))
              (cond (cond (cond (decide (a0.size > (0 : Int))) (decide (a0.zone = (⟨#[]⟩ : ByteArray))) false) (decide (a0.node = (⟨#[]⟩ : ByteArray))) false) (decide (a0.source = (⟨#[]⟩ : ByteArray))) false)
              (cond (a0.verb == (6 : Int))
                (cond (cond (cond (!(decide (a0.size > (0 : Int)))) (decide (a0.zone = (⟨#[]⟩ : ByteArray))) false) (decide (a0.node = (⟨#[]⟩ : ByteArray))) false) (Z31 a0.source) false)
                false)))))))
def Z20f (a0 : XCall) : RT :=
 (.need [a0.target.size < 4611686018427387904]
   (.ask (cond (cond (cond (!(Z31 a0.target)) true (a0.num == (0 : Int))) true (decide (a0.size < (0 : Int)))) true (decide (a0.size > (1125899906842624 : Int))))
     (.leaf .ret ⟨Z9 120 [(2, .bool false)], []⟩ [])
     (.need [a0.zone.size < 4611686018427387904, a0.node.size < 4611686018427387904, a0.source.size < 4611686018427387904]
       (.ask (a0.verb == (1 : Int))
         (.leaf .ret ⟨Z9 120 [(2, .bool (cond (cond (cond (decide (a0.size > (0 : Int))) (Z31 a0.zone) false) (decide (a0.node = (⟨#[]⟩ : ByteArray))) false) (cond (Z31 a0.source) true (decide (a0.source = (⟨#[]⟩ : ByteArray)))) false))], []⟩ [])
         (.ask (a0.verb == (2 : Int))
           (.ask true
             (.leaf .ret ⟨Z9 120 [(2, .bool (cond (cond (cond (!(decide (a0.size > (0 : Int)))) (decide (a0.zone = (⟨#[]⟩ : ByteArray))) false) (decide (a0.node = (⟨#[]⟩ : ByteArray))) false) (decide (a0.source = (⟨#[]⟩ : ByteArray))) false))], []⟩ [])
             .fail)
           (.ask (a0.verb == (7 : Int))
             (.leaf .ret ⟨Z9 120 [(2, .bool (cond (cond (cond (!(decide (a0.size > (0 : Int)))) (decide (a0.zone = (⟨#[]⟩ : ByteArray))) false) (decide (a0.node = (⟨#[]⟩ : ByteArray))) false) (decide (a0.source = (⟨#[]⟩ : ByteArray))) false))], []⟩ [])
             (.ask (a0.verb == (3 : Int))
               (.ask true
                 (.leaf .ret ⟨Z9 120 [(2, .bool (cond (cond (cond (!(decide (a0.size > (0 : Int)))) (decide (a0.zone = (⟨#[]⟩ : ByteArray))) false) (Z31 a0.node) false) (decide (a0.source = (⟨#[]⟩ : ByteArray))) false))], []⟩ [])
                 .fail)
               (.ask (a0.verb == (4 : Int))
                 (.leaf .ret ⟨Z9 120 [(2, .bool (cond (cond (cond (!(decide (a0.size > (0 : Int)))) (decide (a0.zone = (⟨#[]⟩ : ByteArray))) false) (Z31 a0.node) false) (decide (a0.source = (⟨#[]⟩ : ByteArray))) false))], []⟩ [])
                 (.ask (a0.verb == (5 : Int))
                   (.leaf .ret ⟨Z9 120 [(2, .bool (cond (cond (cond (decide (a0.size > (0 : Int))) (decide (a0.zone = (⟨#[]⟩ : ByteArray))) false) (decide (a0.node = (⟨#[]⟩ : ByteArray))) false) (decide (a0.source = (⟨#[]⟩ : ByteArray))) false))], []⟩ [])
                   (.ask (a0.verb == (6 : Int))
                     (.leaf .ret ⟨Z9 120 [(2, .bool (cond (cond (cond (!(decide (a0.size > (0 : Int)))) (decide (a0.zone = (⟨#[]⟩ : ByteArray))) false) (decide (a0.node = (⟨#[]⟩ : ByteArray))) false) (Z31 a0.source) false))], []⟩ [])
                     (.leaf .ret ⟨Z9 120 [(2, .bool false)], []⟩ [])))))))))))
theorem Z26c (a0 : XCall) (hp0 : CS a0) : Tr Tryz.prog 0 (Z3a Tryz.f27) (Z1f Tryz.f27 [.agg (cc a0)] []) (Z4a Tryz.prog Tryz.f27 (.bool (Z32 a0)) []) := by
 refine Z20 (kok _ _ _ _ _ _) (E := E_driver_Right) (L := Z2a) 60 9999 Z14.none (Z20f a0) (by kernel_rfl) (by kernel_rfl) (by kernel_rfl) ?_
 unfold Z20f
 refine ⟨Z6 (by (try refine fun (_ : _ = _) => ?_); (try refine fun (_ : _ ∧ _) => ?_); first | exact hp0.1 | exact hp0.2.1 | exact hp0.2.2.1 | exact hp0.2.2.2) (Z10), ?_⟩
 refine ⟨fun h0 => ?_, fun h0 => ?_⟩
 · have hF : Z32 a0 = false := by first | exact (Zb h0 rfl) | simp only [Z32, h0, cond_true, cond_false]
   exact ⟨trivial, .inl (by (try rw [hF]); kernel_rfl), by (try rw [hF]); kernel_rfl⟩
 · refine ⟨(by (iterate 3 refine Z6 (by (try refine fun (_ : _ = _) => ?_); (try refine fun (_ : _ ∧ _) => ?_); first | exact hp0.1 | exact hp0.2.1 | exact hp0.2.2.1 | exact hp0.2.2.2) ?_); exact Z10), ?_⟩
   refine ⟨fun h1 => ?_, fun h1 => ?_⟩
   · have hF : Z32 a0 = (cond (cond (cond (decide (a0.size > (0 : Int))) (Z31 a0.zone) false) (decide (a0.node = (⟨#[]⟩ : ByteArray))) false) (cond (Z31 a0.source) true (decide (a0.source = (⟨#[]⟩ : ByteArray)))) false) := by first | exact (Z5 h0 (Zb h1 rfl)) | simp only [Z32, h0, h1, cond_true, cond_false]
     exact ⟨trivial, .inl (by (try rw [hF]); kernel_rfl), by (try rw [hF]); kernel_rfl⟩
   · refine ⟨fun h2 => ?_, fun h2 => ?_⟩
     · refine ⟨fun h3 => ?_, fun h3 => ?_⟩
       · have hF : Z32 a0 = (cond (cond (cond (!(decide (a0.size > (0 : Int)))) (decide (a0.zone = (⟨#[]⟩ : ByteArray))) false) (decide (a0.node = (⟨#[]⟩ : ByteArray))) false) (decide (a0.source = (⟨#[]⟩ : ByteArray))) false) := by first | exact (Z5 h0 (Z5 h1 (Zb h2 rfl))) | simp only [Z32, h0, h1, h2, h3, cond_true, cond_false]
         exact ⟨trivial, .inl (by (try rw [hF]); kernel_rfl), by (try rw [hF]); kernel_rfl⟩
       · exact absurd h3 (by simp)
     · refine ⟨fun h3 => ?_, fun h3 => ?_⟩
       · have hF : Z32 a0 = (cond (cond (cond (!(decide (a0.size > (0 : Int)))) (decide (a0.zone = (⟨#[]⟩ : ByteArray))) false) (decide (a0.node = (⟨#[]⟩ : ByteArray))) false) (decide (a0.source = (⟨#[]⟩ : ByteArray))) false) := by first | exact (Z5 h0 (Z5 h1 (Z5 h2 (Zb h3 rfl)))) | simp only [Z32, h0, h1, h2, h3, cond_true, cond_false]
         exact ⟨trivial, .inl (by (try rw [hF]); kernel_rfl), by (try rw [hF]); kernel_rfl⟩
       · refine ⟨fun h4 => ?_, fun h4 => ?_⟩
         · refine ⟨fun h5 => ?_, fun h5 => ?_⟩
           · have hF : Z32 a0 = (cond (cond (cond (!(decide (a0.size > (0 : Int)))) (decide (a0.zone = (⟨#[]⟩ : ByteArray))) false) (Z31 a0.node) false) (decide (a0.source = (⟨#[]⟩ : ByteArray))) false) := by first | exact (Z5 h0 (Z5 h1 (Z5 h2 (Z5 h3 (Zb h4 rfl))))) | simp only [Z32, h0, h1, h2, h3, h4, h5, cond_true, cond_false]
             exact ⟨trivial, .inl (by (try rw [hF]); kernel_rfl), by (try rw [hF]); kernel_rfl⟩
           · exact absurd h5 (by simp)
         · refine ⟨fun h5 => ?_, fun h5 => ?_⟩
           · have hF : Z32 a0 = (cond (cond (cond (!(decide (a0.size > (0 : Int)))) (decide (a0.zone = (⟨#[]⟩ : ByteArray))) false) (Z31 a0.node) false) (decide (a0.source = (⟨#[]⟩ : ByteArray))) false) := by first | exact (Z5 h0 (Z5 h1 (Z5 h2 (Z5 h3 (Z5 h4 (Zb h5 rfl)))))) | simp only [Z32, h0, h1, h2, h3, h4, h5, cond_true, cond_false]
             exact ⟨trivial, .inl (by (try rw [hF]); kernel_rfl), by (try rw [hF]); kernel_rfl⟩
           · refine ⟨fun h6 => ?_, fun h6 => ?_⟩
             · have hF : Z32 a0 = (cond (cond (cond (decide (a0.size > (0 : Int))) (decide (a0.zone = (⟨#[]⟩ : ByteArray))) false) (decide (a0.node = (⟨#[]⟩ : ByteArray))) false) (decide (a0.source = (⟨#[]⟩ : ByteArray))) false) := by first | exact (Z5 h0 (Z5 h1 (Z5 h2 (Z5 h3 (Z5 h4 (Z5 h5 (Zb h6 rfl))))))) | simp only [Z32, h0, h1, h2, h3, h4, h5, h6, cond_true, cond_false]
               exact ⟨trivial, .inl (by (try rw [hF]); kernel_rfl), by (try rw [hF]); kernel_rfl⟩
             · refine ⟨fun h7 => ?_, fun h7 => ?_⟩
               · have hF : Z32 a0 = (cond (cond (cond (!(decide (a0.size > (0 : Int)))) (decide (a0.zone = (⟨#[]⟩ : ByteArray))) false) (decide (a0.node = (⟨#[]⟩ : ByteArray))) false) (Z31 a0.source) false) := by first | exact (Z5 h0 (Z5 h1 (Z5 h2 (Z5 h3 (Z5 h4 (Z5 h5 (Z5 h6 (Zb h7 rfl)))))))) | simp only [Z32, h0, h1, h2, h3, h4, h5, h6, h7, cond_true, cond_false]
                 exact ⟨trivial, .inl (by (try rw [hF]); kernel_rfl), by (try rw [hF]); kernel_rfl⟩
               · have hF : Z32 a0 = false := by first | exact (Z5 h0 (Z5 h1 (Z5 h2 (Z5 h3 (Z5 h4 (Z5 h5 (Z5 h6 (Z5 h7 rfl)))))))) | simp only [Z32, h0, h1, h2, h3, h4, h5, h6, h7, cond_true, cond_false]
                 exact ⟨trivial, .inl (by (try rw [hF]); kernel_rfl), by (try rw [hF]); kernel_rfl⟩
noncomputable def Z13e : Fact Tryz.prog := Z50 27 Tryz.f27 (by kernel_rfl) rfl (by kernel_rfl) [.st .call] [] true (fun t u => .bool (Z32 t.1)) (fun t u => []) (fun t u => [CS t.1])
 (fun _ _ _ => rfl) (fun t u => by kernel_rfl) (fun t u => by kernel_rfl) (fun t u h => Z26c t.1 (h _ List.mem_cons_self))
end Go.Proofs.YtkledlcmhbjadaaGreatDoor
