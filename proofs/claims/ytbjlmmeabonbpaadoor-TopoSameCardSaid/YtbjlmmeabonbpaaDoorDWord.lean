/- Topo: words. -/
import Derived.Test.YtbjlmmeabonbpaaDoorDH0
set_option linter.unusedVariables false
set_option linter.unusedSimpArgs false
set_option maxRecDepth 100000
namespace Go.Proofs.YtbjlmmeabonbpaaDoor
open Go Go.Eng
def ckL : List (Nat × Kind) := [(2, .int .i64), (3, .int .i64), (4, .bool), (5, .int .u8), (6, .int .u8), (9, .str), (10, .str), (11, .str), (12, .int .u64), (21, .int .i32), (22, .terms), (23, .int .i64), (26, .terms), (29, .labels), (32, .labels), (64, .strs), (66, .term), (71, .term), (76, .label), (78, .label), (112, .int .u64), (118, .int .i64), (127, .int .u32), (129, .int .u64), (138, .int .u64), (159, .int .u8), (160, .int .u8), (162, .int .i32), (163, .int .i32)]
def ckf : TypeId → Option Kind := fun t => ckL.lookup t
noncomputable def E_topo_Word : Env := envOf (P := Tryd.prog) [] [] [] ckf
def topo_WordLF (a0 : ByteArray) (v2 : Nat) : Bool :=
  if hv : v2 < a0.size then
    (cond (cond (cond (!(((Utf8.decode a0 v2).1 : Int) == (45 : Int))) (cond (decide (((Utf8.decode a0 v2).1 : Int) < (97 : Int))) true (decide (((Utf8.decode a0 v2).1 : Int) > (122 : Int)))) false) (cond (decide (((Utf8.decode a0 v2).1 : Int) < (48 : Int))) true (decide (((Utf8.decode a0 v2).1 : Int) > (57 : Int)))) false)
      true
      (topo_WordLF a0 (v2 + (Utf8.decode a0 v2).2)))
  else false
termination_by a0.size - v2
decreasing_by all_goals (have := decode_pos a0 v2 hv; omega)
def topo_WordLS (a0 : ByteArray) (v2 : Nat) : St :=
  ⟨slots 37 [(0, .str a0), (7, .ptr 0 0)], [.iter a0 v2]⟩
def topo_WordLR (a0 : ByteArray) (v2 : Nat) : RT :=
  (.ask (decide (v2 < a0.size))
    (.need [(decide (v2 < a0.size)) = true]
      (.ask (cond (cond (!(((Utf8.decode a0 v2).1 : Int) == (45 : Int))) (cond (decide (((Utf8.decode a0 v2).1 : Int) < (97 : Int))) true (decide (((Utf8.decode a0 v2).1 : Int) > (122 : Int)))) false) (cond (decide (((Utf8.decode a0 v2).1 : Int) < (48 : Int))) true (decide (((Utf8.decode a0 v2).1 : Int) > (57 : Int)))) false)
        (.leaf .ret ⟨slots 37 [(2, .bool false)], []⟩ [])
        (.leaf .normal ⟨slots 37 [(0, .str a0), (7, .ptr 0 0)], [.iter a0 (cond (decide (v2 < a0.size)) (v2 + (Utf8.decode a0 v2).2) v2)]⟩ [])))
    (.leaf (.exit 0) ⟨slots 37 [(0, .str a0)], []⟩ []))
def topo_WordLT (a0 : ByteArray) (v2 : Nat) : Tree :=
  .ask (topo_WordLF a0 v2) (.leaf .ret ⟨slots 37 [(2, .bool false)], []⟩) (.leaf (.exit 0) ⟨slots 37 [(0, .str a0)], []⟩)
theorem topo_WordL_loop (a0 : ByteArray) (hp0 : a0.size < 4611686018427387904) (z : { z : Nat // True }) (Q : Exit → St → Prop) (h : (topo_WordLT a0 z.1).All Q) : Tr Tryd.prog 0 (.loop (loopAt Tryd.f21 0)) (topo_WordLS a0 z.1) Q := by
  refine Tr_loopT (kok _ _ _ _ _ _) (E := E_topo_Word) (ι := { z : Nat // True }) 60 0 (fun _ => noLoops) (fun z => topo_WordLS a0 z.1) (fun z => topo_WordLT a0 z.1) (fun z => topo_WordLR a0 z.1) (fun z => a0.size - z.1) (fun _ => LoopsOk.none) (fun z => by obtain ⟨v2, hi⟩ := z; kernel_rfl) (fun z => by obtain ⟨v2, hi⟩ := z; kernel_rfl) (fun z => by obtain ⟨v2, hi⟩ := z; kernel_rfl) ?_ z Q h
  rintro ⟨v2, hi⟩ Q hT
  replace hT : (topo_WordLT a0 v2).All Q := hT
  replace hi : True := hi
  show (topo_WordLR a0 v2).All _
  unfold topo_WordLR
  refine ⟨fun h0 => ?_, fun h0 => ?_⟩
  · have hlt : v2 < a0.size := by simpa using h0
    have hwd := decode_pos a0 v2 hlt
    refine ⟨need_cons (by first | assumption | omega | (intro; omega) | (simp only [decide_eq_true_eq, decide_eq_false_iff_not, Bool.cond_false_right, Bool.cond_true_right, Bool.cond_true_left, Bool.cond_false_left, Bool.and_eq_true, Bool.or_eq_true, Bool.not_eq_true', bytesLim, maxLen, List.length_cons, List.length_nil, List.length_append, byteSize_lit] at *; omega) | (intro; simp only [decide_eq_true_eq, decide_eq_false_iff_not, Bool.cond_false_right, Bool.cond_true_right, Bool.cond_true_left, Bool.cond_false_left, Bool.and_eq_true, Bool.or_eq_true, Bool.not_eq_true', bytesLim, maxLen, List.length_cons, List.length_nil, List.length_append, byteSize_lit] at *; omega)) (need_nil), ?_⟩
    refine ⟨fun h1 => ?_, fun h1 => ?_⟩
    · have hF : topo_WordLF a0 v2 = true := by (conv => lhs; rw [topo_WordLF]); refine (dif_pos hlt).trans ?_; first | exact (cond_t h1 rfl) | simp only [topo_WordLF, h0, h1, cond_true, cond_false]
      unfold topo_WordLT at hT
      rw [hF] at hT
      exact hT.1 rfl
    · have hF : topo_WordLF a0 v2 = topo_WordLF a0 (v2 + (Utf8.decode a0 v2).2) := by (conv => lhs; rw [topo_WordLF]); refine (dif_pos hlt).trans ?_; first | exact (cond_f h1 rfl) | simp only [topo_WordLF, h0, h1, cond_true, cond_false]
      refine ⟨⟨(v2 + (Utf8.decode a0 v2).2), trivial⟩, by show a0.size - (v2 + (Utf8.decode a0 v2).2) < a0.size - v2; omega, ?_, ?_⟩
      · show _ = topo_WordLS a0 (v2 + (Utf8.decode a0 v2).2)
        unfold topo_WordLS
        simp only [h0, cond_true]
      · show (topo_WordLT a0 (v2 + (Utf8.decode a0 v2).2)).All Q
        unfold topo_WordLT at hT ⊢
        rw [hF] at hT
        exact hT
  · have hge : ¬ v2 < a0.size := by simpa using h0
    have hF : topo_WordLF a0 v2 = false := by (conv => lhs; rw [topo_WordLF]); refine (dif_neg hge).trans ?_; first | exact rfl | simp only [topo_WordLF, h0, cond_true, cond_false]
    unfold topo_WordLT at hT
    rw [hF] at hT
    exact hT.2 rfl
def topo_WordF (a0 : ByteArray) : Bool :=
  cond (topo_WordLF a0 0)
    false
    (cond (!(decide (a0 = (⟨#[]⟩ : ByteArray)))) (decide ((a0.size : Int) ≤ (24 : Int))) false)
def topo_WordR (a0 : ByteArray) : RT :=
  (.ask (topo_WordLF a0 0)
    (.leaf .ret ⟨slots 37 [(2, .bool false)], []⟩ [])
    (.leaf .ret ⟨slots 37 [(2, .bool (cond (!(decide (a0 = (⟨#[]⟩ : ByteArray)))) (decide ((a0.size : Int) ≤ (24 : Int))) false))], []⟩ []))
theorem topo_WordF_tr (a0 : ByteArray) (hp0 : a0.size < 4611686018427387904) : Tr Tryd.prog 0 (bodyOf Tryd.f21) (fnBegins Tryd.f21 [.str a0] []) (fnEnds Tryd.prog Tryd.f21 (.bool (topo_WordF a0)) []) := by
  refine Tr_tree (kok _ _ _ _ _ _) (E := E_topo_Word) (L := (loopsOf [(0, topo_WordLS a0 0, [], topo_WordLT a0 0)])) 60 9999 (LoopsOk.one (g := loopAt Tryd.f21 0) (b := 0) (by kernel_rfl) (by kernel_rfl) (by kernel_rfl) (by kernel_rfl) (fun Q h => topo_WordL_loop a0 hp0 ⟨0, trivial⟩ Q h)) (topo_WordR a0) (by kernel_rfl) (by kernel_rfl) (by kernel_rfl) ?_
  unfold topo_WordR
  refine ⟨fun h0 => ?_, fun h0 => ?_⟩
  · have hF : topo_WordF a0 = false := by first | exact (cond_t h0 rfl) | simp only [topo_WordF, h0, cond_true, cond_false]
    exact ⟨trivial, .inl (by first | (rw [hF]; kernel_rfl) | kernel_rfl), by first | (rw [hF]; kernel_rfl) | kernel_rfl⟩
  · have hF : topo_WordF a0 = (cond (!(decide (a0 = (⟨#[]⟩ : ByteArray)))) (decide ((a0.size : Int) ≤ (24 : Int))) false) := by first | exact (cond_f h0 rfl) | simp only [topo_WordF, h0, cond_true, cond_false]
    exact ⟨trivial, .inl (by first | (rw [hF]; kernel_rfl) | kernel_rfl), by first | (rw [hF]; kernel_rfl) | kernel_rfl⟩
noncomputable def topo_Word_fact : Fact Tryd.prog := factOf 21 Tryd.f21 (by kernel_rfl) rfl (by kernel_rfl) [.c (.str)] [] true (fun t u => .bool (topo_WordF t.1)) (fun t u => []) (fun t u => [t.1.size < 4611686018427387904])
  (fun _ _ _ => rfl) (fun t u => by kernel_rfl) (fun t u => by kernel_rfl) (fun t u h => topo_WordF_tr t.1 (h _ List.mem_cons_self))
noncomputable def E_r02_Word : Env := envOf (P := Tryd.prog) [] [] [] ckf
def r02_WordLF (a0 : ByteArray) : Nat → Nat → Bool
  | 0, i => false
  | n + 1, i => cond (!(cond (cond (cond (decide ((byteAt a0 (i : Int)) ≥ (97 : Int))) (decide ((byteAt a0 (i : Int)) ≤ (122 : Int))) false) true (cond (decide ((byteAt a0 (i : Int)) ≥ (48 : Int))) (decide ((byteAt a0 (i : Int)) ≤ (57 : Int))) false)) true ((byteAt a0 (i : Int)) == (45 : Int))))
    true
    (r02_WordLF a0 n (i + 1))
def r02_WordLS (a0 : ByteArray) (i : Nat) : St :=
  ⟨slots 41 [(0, .str a0), (3, .int .i64 (i : Int))], []⟩
def r02_WordLR (a0 : ByteArray) (i : Nat) : RT :=
  (.ask (decide ((i : Int) < (a0.size : Int)))
    (.need [0 ≤ (i : Int) ∧ (i : Int) < (a0.size : Int)]
      (.ask (!(cond (cond (cond (decide ((byteAt a0 (i : Int)) ≥ (97 : Int))) (decide ((byteAt a0 (i : Int)) ≤ (122 : Int))) false) true (cond (decide ((byteAt a0 (i : Int)) ≥ (48 : Int))) (decide ((byteAt a0 (i : Int)) ≤ (57 : Int))) false)) true ((byteAt a0 (i : Int)) == (45 : Int))))
        (.leaf .ret ⟨slots 41 [(2, .bool false)], []⟩ [])
        (.leaf .normal ⟨slots 41 [(0, .str a0), (3, .int .i64 (IntKind.i64.wrap ((i : Int) + (1 : Int))))], []⟩ [])))
    (.leaf (.exit 0) ⟨slots 41 [(0, .str a0)], []⟩ []))
def r02_WordLT (a0 : ByteArray) (i : Nat) : Tree :=
  .ask (r02_WordLF a0 (a0.size - i) i) (.leaf .ret ⟨slots 41 [(2, .bool false)], []⟩) (.leaf (.exit 0) ⟨slots 41 [(0, .str a0)], []⟩)
theorem r02_WordL_loop (a0 : ByteArray) (hp0 : a0.size < 4611686018427387904) (hlen : a0.size < 4611686018427387904) (z : { z : Nat // z ≤ a0.size }) (Q : Exit → St → Prop) (h : (r02_WordLT a0 z.1).All Q) : Tr Tryd.prog 0 (.loop (loopAt Tryd.f22 0)) (r02_WordLS a0 z.1) Q := by
  refine Tr_loopT (kok _ _ _ _ _ _) (E := E_r02_Word) (ι := { z : Nat // z ≤ a0.size }) 60 0 (fun _ => noLoops) (fun z => r02_WordLS a0 z.1) (fun z => r02_WordLT a0 z.1) (fun z => r02_WordLR a0 z.1) (fun z => a0.size - z.1) (fun _ => LoopsOk.none) (fun z => by obtain ⟨i, hi⟩ := z; kernel_rfl) (fun z => by obtain ⟨i, hi⟩ := z; kernel_rfl) (fun z => by obtain ⟨i, hi⟩ := z; kernel_rfl) ?_ z Q h
  rintro ⟨i, hi⟩ Q hT
  replace hT : (r02_WordLT a0 i).All Q := hT
  replace hi : i ≤ a0.size := hi
  show (r02_WordLR a0 i).All _
  unfold r02_WordLR
  refine ⟨fun h0 => ?_, fun h0 => ?_⟩
  · have hlt : i < a0.size := by simpa using h0
    have hd : a0.size - i = (a0.size - (i + 1)) + 1 := by omega
    have hw := wrap_succ (i := i) (by omega)
    refine ⟨need_cons (by first | assumption | omega | (intro; omega) | (simp only [decide_eq_true_eq, decide_eq_false_iff_not, Bool.cond_false_right, Bool.cond_true_right, Bool.cond_true_left, Bool.cond_false_left, Bool.and_eq_true, Bool.or_eq_true, Bool.not_eq_true', bytesLim, maxLen, List.length_cons, List.length_nil, List.length_append, byteSize_lit] at *; omega) | (intro; simp only [decide_eq_true_eq, decide_eq_false_iff_not, Bool.cond_false_right, Bool.cond_true_right, Bool.cond_true_left, Bool.cond_false_left, Bool.and_eq_true, Bool.or_eq_true, Bool.not_eq_true', bytesLim, maxLen, List.length_cons, List.length_nil, List.length_append, byteSize_lit] at *; omega)) (need_nil), ?_⟩
    refine ⟨fun h1 => ?_, fun h1 => ?_⟩
    · have hF : r02_WordLF a0 (a0.size - i) i = true := by rw [hd]; first | exact (cond_t h1 rfl) | simp only [r02_WordLF, h0, h1, cond_true, cond_false]
      unfold r02_WordLT at hT
      rw [hF] at hT
      exact hT.1 rfl
    · have hF : r02_WordLF a0 (a0.size - i) i = r02_WordLF a0 (a0.size - (i + 1)) (i + 1) := by rw [hd]; first | exact (cond_f h1 rfl) | simp only [r02_WordLF, h0, h1, cond_true, cond_false]
      refine ⟨⟨(i + 1), by show (i + 1) ≤ a0.size; omega⟩, by show a0.size - (i + 1) < a0.size - i; omega, ?_, ?_⟩
      · show _ = r02_WordLS a0 (i + 1)
        unfold r02_WordLS
        simp only [hw]
      · show (r02_WordLT a0 (i + 1)).All Q
        unfold r02_WordLT at hT ⊢
        rw [hF] at hT
        exact hT
  · have hge : ¬ i < a0.size := by simpa using h0
    have hd : a0.size - i = 0 := by omega
    have hF : r02_WordLF a0 (a0.size - i) i = false := by rw [hd]; first | exact rfl | simp only [r02_WordLF, h0, cond_true, cond_false]
    unfold r02_WordLT at hT
    rw [hF] at hT
    exact hT.2 rfl
def r02_WordF (a0 : ByteArray) : Bool :=
  cond (r02_WordLF a0 (a0.size) 0)
    false
    (cond (decide ((a0.size : Int) ≥ (1 : Int))) (decide ((a0.size : Int) ≤ (24 : Int))) false)
def r02_WordR (a0 : ByteArray) : RT :=
  (.ask (r02_WordLF a0 (a0.size) 0)
    (.leaf .ret ⟨slots 41 [(2, .bool false)], []⟩ [])
    (.leaf .ret ⟨slots 41 [(2, .bool (cond (decide ((a0.size : Int) ≥ (1 : Int))) (decide ((a0.size : Int) ≤ (24 : Int))) false))], []⟩ []))
theorem r02_WordF_tr (a0 : ByteArray) (hp0 : a0.size < 4611686018427387904) : Tr Tryd.prog 0 (bodyOf Tryd.f22) (fnBegins Tryd.f22 [.str a0] []) (fnEnds Tryd.prog Tryd.f22 (.bool (r02_WordF a0)) []) := by
  refine Tr_tree (kok _ _ _ _ _ _) (E := E_r02_Word) (L := (loopsOf [(0, r02_WordLS a0 0, [], r02_WordLT a0 0)])) 60 9999 (LoopsOk.one (g := loopAt Tryd.f22 0) (b := 0) (by kernel_rfl) (by kernel_rfl) (by kernel_rfl) (by kernel_rfl) (fun Q h => r02_WordL_loop a0 hp0 (by first | assumption | omega | (simp only [List.length_cons, List.length_nil, List.length_append]; omega)) ⟨0, by first | exact Nat.zero_le _ | (show 0 ≤ a0.size; omega) | (show 0 ≤ a0.size; exact ⟨Nat.zero_le _, by assumption⟩) | (show 0 ≤ a0.size; simp)⟩ Q h)) (r02_WordR a0) (by kernel_rfl) (by kernel_rfl) (by kernel_rfl) ?_
  unfold r02_WordR
  refine ⟨fun h0 => ?_, fun h0 => ?_⟩
  · have hF : r02_WordF a0 = false := by first | exact (cond_t h0 rfl) | simp only [r02_WordF, h0, cond_true, cond_false]
    exact ⟨trivial, .inl (by first | (rw [hF]; kernel_rfl) | kernel_rfl), by first | (rw [hF]; kernel_rfl) | kernel_rfl⟩
  · have hF : r02_WordF a0 = (cond (decide ((a0.size : Int) ≥ (1 : Int))) (decide ((a0.size : Int) ≤ (24 : Int))) false) := by first | exact (cond_f h0 rfl) | simp only [r02_WordF, h0, cond_true, cond_false]
    exact ⟨trivial, .inl (by first | (rw [hF]; kernel_rfl) | kernel_rfl), by first | (rw [hF]; kernel_rfl) | kernel_rfl⟩
noncomputable def r02_Word_fact : Fact Tryd.prog := factOf 22 Tryd.f22 (by kernel_rfl) rfl (by kernel_rfl) [.c (.str)] [] true (fun t u => .bool (r02_WordF t.1)) (fun t u => []) (fun t u => [t.1.size < 4611686018427387904])
  (fun _ _ _ => rfl) (fun t u => by kernel_rfl) (fun t u => by kernel_rfl) (fun t u h => r02_WordF_tr t.1 (h _ List.mem_cons_self))
end Go.Proofs.YtbjlmmeabonbpaaDoor
