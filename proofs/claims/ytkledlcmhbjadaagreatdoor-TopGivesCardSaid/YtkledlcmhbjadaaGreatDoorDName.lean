/- The driver: names, right calls. -/
import Derived.Test.YtkledlcmhbjadaaGreatDoorDOf
import Derived.Test.YtkledlcmhbjadaaGreatDoorDH0
set_option linter.unusedVariables false
set_option linter.unusedSimpArgs false
set_option maxRecDepth 100000
namespace Go.Proofs.YtkledlcmhbjadaaGreatDoor
open Go Go.Eng
noncomputable def E_object_Name : Env := envOf (P := Tryz.prog) [] [] [] ckf
def object_NameLF (a0 : ByteArray) : Nat → Nat → Bool
 | 0, i => false
 | n + 1, i => cond (cond (cond (cond (cond (cond (!(cond (decide ((byteAt a0 (i : Int)) ≥ (97 : Int))) (decide ((byteAt a0 (i : Int)) ≤ (122 : Int))) false)) (!(cond (decide ((byteAt a0 (i : Int)) ≥ (48 : Int))) (decide ((byteAt a0 (i : Int)) ≤ (57 : Int))) false)) false) (!((byteAt a0 (i : Int)) == (45 : Int))) false) (!((byteAt a0 (i : Int)) == (46 : Int))) false) (!((byteAt a0 (i : Int)) == (35 : Int))) false) (!((byteAt a0 (i : Int)) == (47 : Int))) false)
  true
  (object_NameLF a0 n (i + 1))
def object_NameLS (a0 : ByteArray) (i : Nat) : St :=
 ⟨slots 57 [(0, .str a0), (8, .int .i64 (a0.size : Int)), (9, .int .i64 (i : Int))], []⟩
def object_NameLR (a0 : ByteArray) (i : Nat) : RT :=
 (.ask (decide ((i : Int) < (a0.size : Int)))
   (.need [0 ≤ (i : Int) ∧ (i : Int) < (a0.size : Int)]
     (.ask (cond (cond (cond (cond (cond (!(cond (decide ((byteAt a0 (i : Int)) ≥ (97 : Int))) (decide ((byteAt a0 (i : Int)) ≤ (122 : Int))) false)) (!(cond (decide ((byteAt a0 (i : Int)) ≥ (48 : Int))) (decide ((byteAt a0 (i : Int)) ≤ (57 : Int))) false)) false) (!((byteAt a0 (i : Int)) == (45 : Int))) false) (!((byteAt a0 (i : Int)) == (46 : Int))) false) (!((byteAt a0 (i : Int)) == (35 : Int))) false) (!((byteAt a0 (i : Int)) == (47 : Int))) false)
       (.leaf .ret ⟨slots 57 [(2, .bool false)], []⟩ [])
       (.leaf .normal ⟨slots 57 [(0, .str a0), (8, .int .i64 (a0.size : Int)), (9, .int .i64 (IntKind.i64.wrap ((i : Int) + (1 : Int))))], []⟩ [])))
   (.leaf (.exit 0) ⟨slots 57 [(0, .str a0)], []⟩ []))
def object_NameLT (a0 : ByteArray) (i : Nat) : Tree :=
 .ask (object_NameLF a0 (a0.size - i) i) (.leaf .ret ⟨slots 57 [(2, .bool false)], []⟩) (.leaf (.exit 0) ⟨slots 57 [(0, .str a0)], []⟩)
theorem object_NameL_loop (a0 : ByteArray) (hp0 : a0.size < 4611686018427387904) (hlen : a0.size < 4611686018427387904) (z : { z : Nat // z ≤ a0.size }) (Q : Exit → St → Prop) (h : (object_NameLT a0 z.1).All Q) : Tr Tryz.prog 0 (.loop (loopAt Tryz.f37 0)) (object_NameLS a0 z.1) Q := by
 refine Tr_loopT (kok _ _ _ _ _ _) (E := E_object_Name) (ι := { z : Nat // z ≤ a0.size }) 60 0 (fun _ => noLoops) (fun z => object_NameLS a0 z.1) (fun z => object_NameLT a0 z.1) (fun z => object_NameLR a0 z.1) (fun z => a0.size - z.1) (fun _ => LoopsOk.none) (fun z => by obtain ⟨i, hi⟩ := z; kernel_rfl) (fun z => by obtain ⟨i, hi⟩ := z; kernel_rfl) (fun z => by obtain ⟨i, hi⟩ := z; kernel_rfl) ?_ z Q h
 rintro ⟨i, hi⟩ Q hT
 replace hT : (object_NameLT a0 i).All Q := hT
 replace hi : i ≤ a0.size := hi
 show (object_NameLR a0 i).All _
 unfold object_NameLR
 refine ⟨fun h0 => ?_, fun h0 => ?_⟩
 · have hlt : i < a0.size := by simpa using h0
   have hd : a0.size - i = (a0.size - (i + 1)) + 1 := by omega
   have hw := wrap_succ (i := i) (by omega)
   refine ⟨need_cons (by first | assumption | omega | ((try intro _); (try simp only [decide_eq_true_eq, decide_eq_false_iff_not, Bool.cond_false_right, Bool.cond_true_right, Bool.cond_true_left, Bool.cond_false_left, Bool.and_eq_true, Bool.or_eq_true, Bool.not_eq_true', bytesLim, maxLen, List.length_cons, List.length_nil, List.length_append, byteSize_lit] at *); omega)) (need_nil), ?_⟩
   refine ⟨fun h1 => ?_, fun h1 => ?_⟩
   · have hF : object_NameLF a0 (a0.size - i) i = true := by rw [hd]; first | exact (cond_t h1 rfl) | simp only [object_NameLF, h0, h1, cond_true, cond_false]
     unfold object_NameLT at hT
     rw [hF] at hT
     exact hT.1 rfl
   · have hF : object_NameLF a0 (a0.size - i) i = object_NameLF a0 (a0.size - (i + 1)) (i + 1) := by rw [hd]; first | exact (cond_f h1 rfl) | simp only [object_NameLF, h0, h1, cond_true, cond_false]
     refine ⟨⟨(i + 1), by show (i + 1) ≤ a0.size; omega⟩, by show a0.size - (i + 1) < a0.size - i; omega, ?_, ?_⟩
     · show _ = object_NameLS a0 (i + 1)
       unfold object_NameLS
       simp only [hw]
     · show (object_NameLT a0 (i + 1)).All Q
       unfold object_NameLT at hT ⊢
       rw [hF] at hT
       exact hT
 · have hge : ¬ i < a0.size := by simpa using h0
   have hd : a0.size - i = 0 := by omega
   have hF : object_NameLF a0 (a0.size - i) i = false := by rw [hd]; first | exact rfl | simp only [object_NameLF, h0, cond_true, cond_false]
   unfold object_NameLT at hT
   rw [hF] at hT
   exact hT.2 rfl
def object_NameF (a0 : ByteArray) : Bool :=
 cond (object_NameLF a0 (a0.size) 0)
  false
  (cond (!(decide (a0 = (⟨#[]⟩ : ByteArray)))) (decide ((a0.size : Int) ≤ (40 : Int))) false)
def object_NameR (a0 : ByteArray) : RT :=
 (.ask (object_NameLF a0 (a0.size) 0)
   (.leaf .ret ⟨slots 57 [(2, .bool false)], []⟩ [])
   (.leaf .ret ⟨slots 57 [(2, .bool (cond (!(decide (a0 = (⟨#[]⟩ : ByteArray)))) (decide ((a0.size : Int) ≤ (40 : Int))) false))], []⟩ []))
theorem object_NameF_tr (a0 : ByteArray) (hp0 : a0.size < 4611686018427387904) : Tr Tryz.prog 0 (bodyOf Tryz.f37) (fnBegins Tryz.f37 [.str a0] []) (fnEnds Tryz.prog Tryz.f37 (.bool (object_NameF a0)) []) := by
 refine Tr_tree (kok _ _ _ _ _ _) (E := E_object_Name) (L := (loopsOf [(0, object_NameLS a0 0, [], object_NameLT a0 0)])) 60 9999 (LoopsOk.one (g := loopAt Tryz.f37 0) (b := 0) (by kernel_rfl) (by kernel_rfl) (by kernel_rfl) (by kernel_rfl) (fun Q h => object_NameL_loop a0 hp0 (by first | assumption | omega | (simp only [List.length_cons, List.length_nil, List.length_append]; omega)) ⟨0, by first | exact Nat.zero_le _ | (show 0 ≤ a0.size; omega) | (show 0 ≤ a0.size; exact ⟨Nat.zero_le _, by assumption⟩) | (show 0 ≤ a0.size; simp)⟩ Q h)) (object_NameR a0) (by kernel_rfl) (by kernel_rfl) (by kernel_rfl) ?_
 unfold object_NameR
 refine ⟨fun h0 => ?_, fun h0 => ?_⟩
 · have hF : object_NameF a0 = false := by first | exact (cond_t h0 rfl) | simp only [object_NameF, h0, cond_true, cond_false]
   exact ⟨trivial, .inl (by (try rw [hF]); kernel_rfl), by (try rw [hF]); kernel_rfl⟩
 · have hF : object_NameF a0 = (cond (!(decide (a0 = (⟨#[]⟩ : ByteArray)))) (decide ((a0.size : Int) ≤ (40 : Int))) false) := by first | exact (cond_f h0 rfl) | simp only [object_NameF, h0, cond_true, cond_false]
   exact ⟨trivial, .inl (by (try rw [hF]); kernel_rfl), by (try rw [hF]); kernel_rfl⟩
noncomputable def object_Name_fact : Fact Tryz.prog := factOf 37 Tryz.f37 (by kernel_rfl) rfl (by kernel_rfl) [.c (.str)] [] true (fun t u => .bool (object_NameF t.1)) (fun t u => []) (fun t u => [t.1.size < 4611686018427387904])
 (fun _ _ _ => rfl) (fun t u => by kernel_rfl) (fun t u => by kernel_rfl) (fun t u h => object_NameF_tr t.1 (h _ List.mem_cons_self))
noncomputable def E_driver_Right : Env := envOf (P := Tryz.prog) [object_Name_fact] [] [] ckf
def driver_RightF (a0 : XCall) : Bool :=
 cond (cond (cond (cond (!(object_NameF a0.target)) true (a0.num == (0 : Int))) true (decide (a0.size < (0 : Int)))) true (decide (a0.size > (1125899906842624 : Int))))
  false
  (cond (a0.verb == (1 : Int))
    (cond (cond (cond (decide (a0.size > (0 : Int))) (object_NameF a0.zone) false) (decide (a0.node = (⟨#[]⟩ : ByteArray))) false) (cond (object_NameF a0.source) true (decide (a0.source = (⟨#[]⟩ : ByteArray)))) false)
    (cond (a0.verb == (2 : Int))
      (cond (cond (cond (!(decide (a0.size > (0 : Int)))) (decide (a0.zone = (⟨#[]⟩ : ByteArray))) false) (decide (a0.node = (⟨#[]⟩ : ByteArray))) false) (decide (a0.source = (⟨#[]⟩ : ByteArray))) false)
      (cond (a0.verb == (7 : Int))
        (cond (cond (cond (!(decide (a0.size > (0 : Int)))) (decide (a0.zone = (⟨#[]⟩ : ByteArray))) false) (decide (a0.node = (⟨#[]⟩ : ByteArray))) false) (decide (a0.source = (⟨#[]⟩ : ByteArray))) false)
        (cond (a0.verb == (3 : Int))
          (cond (cond (cond (!(decide (a0.size > (0 : Int)))) (decide (a0.zone = (⟨#[]⟩ : ByteArray))) false) (object_NameF a0.node) false) (decide (a0.source = (⟨#[]⟩ : ByteArray))) false)
          (cond (a0.verb == (4 : Int))
            (cond (cond (cond (!(decide (a0.size > (0 : Int)))) (decide (a0.zone = (⟨#[]⟩ : ByteArray))) false) (object_NameF a0.node) false) (decide (a0.source = (⟨#[]⟩ : ByteArray))) false)
            (cond (a0.verb == (5 : Int))
              (cond (cond (cond (decide (a0.size > (0 : Int))) (decide (a0.zone = (⟨#[]⟩ : ByteArray))) false) (decide (a0.node = (⟨#[]⟩ : ByteArray))) false) (decide (a0.source = (⟨#[]⟩ : ByteArray))) false)
              (cond (a0.verb == (6 : Int))
                (cond (cond (cond (!(decide (a0.size > (0 : Int)))) (decide (a0.zone = (⟨#[]⟩ : ByteArray))) false) (decide (a0.node = (⟨#[]⟩ : ByteArray))) false) (object_NameF a0.source) false)
                false)))))))
def driver_RightR (a0 : XCall) : RT :=
 (.need [a0.target.size < 4611686018427387904]
   (.ask (cond (cond (cond (!(object_NameF a0.target)) true (a0.num == (0 : Int))) true (decide (a0.size < (0 : Int)))) true (decide (a0.size > (1125899906842624 : Int))))
     (.leaf .ret ⟨slots 120 [(2, .bool false)], []⟩ [])
     (.need [a0.zone.size < 4611686018427387904, a0.node.size < 4611686018427387904, a0.source.size < 4611686018427387904]
       (.ask (a0.verb == (1 : Int))
         (.leaf .ret ⟨slots 120 [(2, .bool (cond (cond (cond (decide (a0.size > (0 : Int))) (object_NameF a0.zone) false) (decide (a0.node = (⟨#[]⟩ : ByteArray))) false) (cond (object_NameF a0.source) true (decide (a0.source = (⟨#[]⟩ : ByteArray)))) false))], []⟩ [])
         (.ask (a0.verb == (2 : Int))
           (.ask true
             (.leaf .ret ⟨slots 120 [(2, .bool (cond (cond (cond (!(decide (a0.size > (0 : Int)))) (decide (a0.zone = (⟨#[]⟩ : ByteArray))) false) (decide (a0.node = (⟨#[]⟩ : ByteArray))) false) (decide (a0.source = (⟨#[]⟩ : ByteArray))) false))], []⟩ [])
             .fail)
           (.ask (a0.verb == (7 : Int))
             (.leaf .ret ⟨slots 120 [(2, .bool (cond (cond (cond (!(decide (a0.size > (0 : Int)))) (decide (a0.zone = (⟨#[]⟩ : ByteArray))) false) (decide (a0.node = (⟨#[]⟩ : ByteArray))) false) (decide (a0.source = (⟨#[]⟩ : ByteArray))) false))], []⟩ [])
             (.ask (a0.verb == (3 : Int))
               (.ask true
                 (.leaf .ret ⟨slots 120 [(2, .bool (cond (cond (cond (!(decide (a0.size > (0 : Int)))) (decide (a0.zone = (⟨#[]⟩ : ByteArray))) false) (object_NameF a0.node) false) (decide (a0.source = (⟨#[]⟩ : ByteArray))) false))], []⟩ [])
                 .fail)
               (.ask (a0.verb == (4 : Int))
                 (.leaf .ret ⟨slots 120 [(2, .bool (cond (cond (cond (!(decide (a0.size > (0 : Int)))) (decide (a0.zone = (⟨#[]⟩ : ByteArray))) false) (object_NameF a0.node) false) (decide (a0.source = (⟨#[]⟩ : ByteArray))) false))], []⟩ [])
                 (.ask (a0.verb == (5 : Int))
                   (.leaf .ret ⟨slots 120 [(2, .bool (cond (cond (cond (decide (a0.size > (0 : Int))) (decide (a0.zone = (⟨#[]⟩ : ByteArray))) false) (decide (a0.node = (⟨#[]⟩ : ByteArray))) false) (decide (a0.source = (⟨#[]⟩ : ByteArray))) false))], []⟩ [])
                   (.ask (a0.verb == (6 : Int))
                     (.leaf .ret ⟨slots 120 [(2, .bool (cond (cond (cond (!(decide (a0.size > (0 : Int)))) (decide (a0.zone = (⟨#[]⟩ : ByteArray))) false) (decide (a0.node = (⟨#[]⟩ : ByteArray))) false) (object_NameF a0.source) false))], []⟩ [])
                     (.leaf .ret ⟨slots 120 [(2, .bool false)], []⟩ [])))))))))))
theorem driver_RightF_tr (a0 : XCall) (hp0 : CS a0) : Tr Tryz.prog 0 (bodyOf Tryz.f27) (fnBegins Tryz.f27 [.agg (cc a0)] []) (fnEnds Tryz.prog Tryz.f27 (.bool (driver_RightF a0)) []) := by
 refine Tr_tree (kok _ _ _ _ _ _) (E := E_driver_Right) (L := noLoops) 60 9999 LoopsOk.none (driver_RightR a0) (by kernel_rfl) (by kernel_rfl) (by kernel_rfl) ?_
 unfold driver_RightR
 refine ⟨need_cons (by (try refine fun (_ : _ = _) => ?_); (try refine fun (_ : _ ∧ _) => ?_); first | exact hp0.1 | exact hp0.2.1 | exact hp0.2.2.1 | exact hp0.2.2.2) (need_nil), ?_⟩
 refine ⟨fun h0 => ?_, fun h0 => ?_⟩
 · have hF : driver_RightF a0 = false := by first | exact (cond_t h0 rfl) | simp only [driver_RightF, h0, cond_true, cond_false]
   exact ⟨trivial, .inl (by (try rw [hF]); kernel_rfl), by (try rw [hF]); kernel_rfl⟩
 · refine ⟨(by (iterate 3 refine need_cons (by (try refine fun (_ : _ = _) => ?_); (try refine fun (_ : _ ∧ _) => ?_); first | exact hp0.1 | exact hp0.2.1 | exact hp0.2.2.1 | exact hp0.2.2.2) ?_); exact need_nil), ?_⟩
   refine ⟨fun h1 => ?_, fun h1 => ?_⟩
   · have hF : driver_RightF a0 = (cond (cond (cond (decide (a0.size > (0 : Int))) (object_NameF a0.zone) false) (decide (a0.node = (⟨#[]⟩ : ByteArray))) false) (cond (object_NameF a0.source) true (decide (a0.source = (⟨#[]⟩ : ByteArray)))) false) := by first | exact (cond_f h0 (cond_t h1 rfl)) | simp only [driver_RightF, h0, h1, cond_true, cond_false]
     exact ⟨trivial, .inl (by (try rw [hF]); kernel_rfl), by (try rw [hF]); kernel_rfl⟩
   · refine ⟨fun h2 => ?_, fun h2 => ?_⟩
     · refine ⟨fun h3 => ?_, fun h3 => ?_⟩
       · have hF : driver_RightF a0 = (cond (cond (cond (!(decide (a0.size > (0 : Int)))) (decide (a0.zone = (⟨#[]⟩ : ByteArray))) false) (decide (a0.node = (⟨#[]⟩ : ByteArray))) false) (decide (a0.source = (⟨#[]⟩ : ByteArray))) false) := by first | exact (cond_f h0 (cond_f h1 (cond_t h2 rfl))) | simp only [driver_RightF, h0, h1, h2, h3, cond_true, cond_false]
         exact ⟨trivial, .inl (by (try rw [hF]); kernel_rfl), by (try rw [hF]); kernel_rfl⟩
       · exact absurd h3 (by simp)
     · refine ⟨fun h3 => ?_, fun h3 => ?_⟩
       · have hF : driver_RightF a0 = (cond (cond (cond (!(decide (a0.size > (0 : Int)))) (decide (a0.zone = (⟨#[]⟩ : ByteArray))) false) (decide (a0.node = (⟨#[]⟩ : ByteArray))) false) (decide (a0.source = (⟨#[]⟩ : ByteArray))) false) := by first | exact (cond_f h0 (cond_f h1 (cond_f h2 (cond_t h3 rfl)))) | simp only [driver_RightF, h0, h1, h2, h3, cond_true, cond_false]
         exact ⟨trivial, .inl (by (try rw [hF]); kernel_rfl), by (try rw [hF]); kernel_rfl⟩
       · refine ⟨fun h4 => ?_, fun h4 => ?_⟩
         · refine ⟨fun h5 => ?_, fun h5 => ?_⟩
           · have hF : driver_RightF a0 = (cond (cond (cond (!(decide (a0.size > (0 : Int)))) (decide (a0.zone = (⟨#[]⟩ : ByteArray))) false) (object_NameF a0.node) false) (decide (a0.source = (⟨#[]⟩ : ByteArray))) false) := by first | exact (cond_f h0 (cond_f h1 (cond_f h2 (cond_f h3 (cond_t h4 rfl))))) | simp only [driver_RightF, h0, h1, h2, h3, h4, h5, cond_true, cond_false]
             exact ⟨trivial, .inl (by (try rw [hF]); kernel_rfl), by (try rw [hF]); kernel_rfl⟩
           · exact absurd h5 (by simp)
         · refine ⟨fun h5 => ?_, fun h5 => ?_⟩
           · have hF : driver_RightF a0 = (cond (cond (cond (!(decide (a0.size > (0 : Int)))) (decide (a0.zone = (⟨#[]⟩ : ByteArray))) false) (object_NameF a0.node) false) (decide (a0.source = (⟨#[]⟩ : ByteArray))) false) := by first | exact (cond_f h0 (cond_f h1 (cond_f h2 (cond_f h3 (cond_f h4 (cond_t h5 rfl)))))) | simp only [driver_RightF, h0, h1, h2, h3, h4, h5, cond_true, cond_false]
             exact ⟨trivial, .inl (by (try rw [hF]); kernel_rfl), by (try rw [hF]); kernel_rfl⟩
           · refine ⟨fun h6 => ?_, fun h6 => ?_⟩
             · have hF : driver_RightF a0 = (cond (cond (cond (decide (a0.size > (0 : Int))) (decide (a0.zone = (⟨#[]⟩ : ByteArray))) false) (decide (a0.node = (⟨#[]⟩ : ByteArray))) false) (decide (a0.source = (⟨#[]⟩ : ByteArray))) false) := by first | exact (cond_f h0 (cond_f h1 (cond_f h2 (cond_f h3 (cond_f h4 (cond_f h5 (cond_t h6 rfl))))))) | simp only [driver_RightF, h0, h1, h2, h3, h4, h5, h6, cond_true, cond_false]
               exact ⟨trivial, .inl (by (try rw [hF]); kernel_rfl), by (try rw [hF]); kernel_rfl⟩
             · refine ⟨fun h7 => ?_, fun h7 => ?_⟩
               · have hF : driver_RightF a0 = (cond (cond (cond (!(decide (a0.size > (0 : Int)))) (decide (a0.zone = (⟨#[]⟩ : ByteArray))) false) (decide (a0.node = (⟨#[]⟩ : ByteArray))) false) (object_NameF a0.source) false) := by first | exact (cond_f h0 (cond_f h1 (cond_f h2 (cond_f h3 (cond_f h4 (cond_f h5 (cond_f h6 (cond_t h7 rfl)))))))) | simp only [driver_RightF, h0, h1, h2, h3, h4, h5, h6, h7, cond_true, cond_false]
                 exact ⟨trivial, .inl (by (try rw [hF]); kernel_rfl), by (try rw [hF]); kernel_rfl⟩
               · have hF : driver_RightF a0 = false := by first | exact (cond_f h0 (cond_f h1 (cond_f h2 (cond_f h3 (cond_f h4 (cond_f h5 (cond_f h6 (cond_f h7 rfl)))))))) | simp only [driver_RightF, h0, h1, h2, h3, h4, h5, h6, h7, cond_true, cond_false]
                 exact ⟨trivial, .inl (by (try rw [hF]); kernel_rfl), by (try rw [hF]); kernel_rfl⟩
noncomputable def driver_Right_fact : Fact Tryz.prog := factOf 27 Tryz.f27 (by kernel_rfl) rfl (by kernel_rfl) [.st .call] [] true (fun t u => .bool (driver_RightF t.1)) (fun t u => []) (fun t u => [CS t.1])
 (fun _ _ _ => rfl) (fun t u => by kernel_rfl) (fun t u => by kernel_rfl) (fun t u h => driver_RightF_tr t.1 (h _ List.mem_cons_self))
end Go.Proofs.YtkledlcmhbjadaaGreatDoor
