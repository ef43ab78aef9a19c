/- Bind: laws. -/
import Derived.Test.YtnfmnipckcidlaaDoorDLive
set_option linter.unusedVariables false
set_option linter.unusedSimpArgs false
set_option maxRecDepth 100000
namespace Go.Proofs.YtnfmnipckcidlaaDoor
open Go Go.Eng
noncomputable def E_r03_Key : Env := envOf (P := Tryd.prog) [] [] [] ckf
def r03_KeyF (a0 : XObj) : XKey :=
  (⟨a0.kind, a0.name⟩ : XKey)
def r03_KeyR (a0 : XObj) : RT :=
  (.leaf .ret ⟨slots 8 [(2, .ptr 0 0)], [.cells 49 [.int .u8 a0.kind, .str a0.name]]⟩ [1])
theorem r03_KeyF_tr (a0 : XObj)  : Tr Tryd.prog 0 (bodyOf Tryd.f53) (fnBegins Tryd.f53 [.agg (oc a0)] []) (fnEnds Tryd.prog Tryd.f53 (.agg [.int .u8 ((r03_KeyF a0).kind), .str ((r03_KeyF a0).name)]) []) := by
  refine Tr_tree (kok _ _ _ _ _ _) (E := E_r03_Key) (L := noLoops) 60 9999 LoopsOk.none (r03_KeyR a0) (by kernel_rfl) (by kernel_rfl) (by kernel_rfl) ?_
  unfold r03_KeyR
  exact ⟨trivial, .inl (by kernel_rfl), by kernel_rfl⟩
noncomputable def r03_Key_fact : Fact Tryd.prog := factOf 53 Tryd.f53 (by kernel_rfl) rfl (by kernel_rfl) [.st .obj] [] true (fun t u => .agg [.int .u8 ((r03_KeyF t.1).kind), .str ((r03_KeyF t.1).name)]) (fun t u => []) (fun t u => [])
  (fun _ _ _ => rfl) (fun t u => by kernel_rfl) (fun t u => by kernel_rfl) (fun t u h => r03_KeyF_tr t.1 )
noncomputable def E_w12_first : Env := envOf (P := Tryd.prog) [r03_Key_fact] [] [] ckf
def w12_firstLF (a0 : List XObj) (a1 : Int) : Nat → Nat → Bool
  | 0, i => false
  | n + 1, i => cond ((((r03_KeyF (a0.getD i default)).kind) == ((r03_KeyF (a0.getD a1.toNat default)).kind)) && (decide (((r03_KeyF (a0.getD i default)).name) = ((r03_KeyF (a0.getD a1.toNat default)).name))))
    true
    (w12_firstLF a0 a1 n (i + 1))
def w12_firstLS (a0 : List XObj) (a1 : Int) (i : Nat) : St :=
  ⟨slots 22 [(0, .coll ⟨.obj, a0⟩), (1, .int .i64 a1), (5, .int .i64 (i : Int))], []⟩
def w12_firstLR (a0 : List XObj) (a1 : Int) (i : Nat) : RT :=
  (.ask (decide ((i : Int) < a1))
    (.need [0 ≤ (i : Int) ∧ (i : Int) < (a0.length : Int), 0 ≤ a1 ∧ a1 < (a0.length : Int)]
      (.ask ((((r03_KeyF (a0.getD i default)).kind) == ((r03_KeyF (a0.getD a1.toNat default)).kind)) && (decide (((r03_KeyF (a0.getD i default)).name) = ((r03_KeyF (a0.getD a1.toNat default)).name))))
        (.leaf .ret ⟨slots 22 [(4, .bool false)], []⟩ [])
        (.leaf .normal ⟨slots 22 [(0, .coll ⟨.obj, a0⟩), (1, .int .i64 a1), (5, .int .i64 (IntKind.i64.wrap ((i : Int) + (1 : Int))))], []⟩ [])))
    (.leaf (.exit 0) ⟨slots 22 [], []⟩ []))
def w12_firstLT (a0 : List XObj) (a1 : Int) (i : Nat) : Tree :=
  .ask (w12_firstLF a0 a1 ((a1.toNat) - i) i) (.leaf .ret ⟨slots 22 [(4, .bool false)], []⟩) (.leaf (.exit 0) ⟨slots 22 [], []⟩)
theorem w12_firstL_loop (a0 : List XObj) (a1 : Int) (hp0 : a0.length < 4611686018427387904) (hp1 : 0 ≤ a1) (hp2 : a1 < (a0.length : Int)) (hlen : (a1.toNat) < 4611686018427387904) (z : { z : Nat // z ≤ (a1.toNat) }) (Q : Exit → St → Prop) (h : (w12_firstLT a0 a1 z.1).All Q) : Tr Tryd.prog 0 (.loop (loopAt Tryd.f21 0)) (w12_firstLS a0 a1 z.1) Q := by
  refine Tr_loopT (kok _ _ _ _ _ _) (E := E_w12_first) (ι := { z : Nat // z ≤ (a1.toNat) }) 60 0 (fun _ => noLoops) (fun z => w12_firstLS a0 a1 z.1) (fun z => w12_firstLT a0 a1 z.1) (fun z => w12_firstLR a0 a1 z.1) (fun z => (a1.toNat) - z.1) (fun _ => LoopsOk.none) (fun z => by obtain ⟨i, hi⟩ := z; kernel_rfl) (fun z => by obtain ⟨i, hi⟩ := z; kernel_rfl) (fun z => by obtain ⟨i, hi⟩ := z; kernel_rfl) ?_ z Q h
  rintro ⟨i, hi⟩ Q hT
  replace hT : (w12_firstLT a0 a1 i).All Q := hT
  replace hi : i ≤ (a1.toNat) := hi
  show (w12_firstLR a0 a1 i).All _
  unfold w12_firstLR
  refine ⟨fun h0 => ?_, fun h0 => ?_⟩
  · have hlt : i < (a1.toNat) := by have h9 := h0; simp only [decide_eq_true_eq, decide_eq_false_iff_not] at h9; omega
    have hd : (a1.toNat) - i = ((a1.toNat) - (i + 1)) + 1 := by omega
    have hw := wrap_succ (i := i) (by omega)
    refine ⟨need_cons (by first | assumption | omega | (intro; omega) | (simp only [decide_eq_true_eq, decide_eq_false_iff_not, Bool.cond_false_right, Bool.cond_true_right, Bool.cond_true_left, Bool.cond_false_left, Bool.and_eq_true, Bool.or_eq_true, Bool.not_eq_true', bytesLim, maxLen, List.length_cons, List.length_nil, List.length_append, byteSize_lit] at *; omega) | (intro; simp only [decide_eq_true_eq, decide_eq_false_iff_not, Bool.cond_false_right, Bool.cond_true_right, Bool.cond_true_left, Bool.cond_false_left, Bool.and_eq_true, Bool.or_eq_true, Bool.not_eq_true', bytesLim, maxLen, List.length_cons, List.length_nil, List.length_append, byteSize_lit] at *; omega)) (need_cons (by first | assumption | omega | (intro; omega) | (simp only [decide_eq_true_eq, decide_eq_false_iff_not, Bool.cond_false_right, Bool.cond_true_right, Bool.cond_true_left, Bool.cond_false_left, Bool.and_eq_true, Bool.or_eq_true, Bool.not_eq_true', bytesLim, maxLen, List.length_cons, List.length_nil, List.length_append, byteSize_lit] at *; omega) | (intro; simp only [decide_eq_true_eq, decide_eq_false_iff_not, Bool.cond_false_right, Bool.cond_true_right, Bool.cond_true_left, Bool.cond_false_left, Bool.and_eq_true, Bool.or_eq_true, Bool.not_eq_true', bytesLim, maxLen, List.length_cons, List.length_nil, List.length_append, byteSize_lit] at *; omega)) (need_nil)), ?_⟩
    refine ⟨fun h1 => ?_, fun h1 => ?_⟩
    · have hF : w12_firstLF a0 a1 ((a1.toNat) - i) i = true := by rw [hd]; first | exact (cond_t h1 rfl) | simp only [w12_firstLF, h0, h1, cond_true, cond_false]
      unfold w12_firstLT at hT
      rw [hF] at hT
      exact hT.1 rfl
    · have hF : w12_firstLF a0 a1 ((a1.toNat) - i) i = w12_firstLF a0 a1 ((a1.toNat) - (i + 1)) (i + 1) := by rw [hd]; first | exact (cond_f h1 rfl) | simp only [w12_firstLF, h0, h1, cond_true, cond_false]
      refine ⟨⟨(i + 1), by show (i + 1) ≤ (a1.toNat); omega⟩, by show (a1.toNat) - (i + 1) < (a1.toNat) - i; omega, ?_, ?_⟩
      · show _ = w12_firstLS a0 a1 (i + 1)
        unfold w12_firstLS
        simp only [hw]
      · show (w12_firstLT a0 a1 (i + 1)).All Q
        unfold w12_firstLT at hT ⊢
        rw [hF] at hT
        exact hT
  · have hge : ¬ i < (a1.toNat) := by have h9 := h0; simp only [decide_eq_true_eq, decide_eq_false_iff_not] at h9; omega
    have hd : (a1.toNat) - i = 0 := by omega
    have hF : w12_firstLF a0 a1 ((a1.toNat) - i) i = false := by rw [hd]; first | exact rfl | simp only [w12_firstLF, h0, cond_true, cond_false]
    unfold w12_firstLT at hT
    rw [hF] at hT
    exact hT.2 rfl
def w12_firstF (a0 : List XObj) (a1 : Int) : Bool :=
  cond (w12_firstLF a0 a1 ((a1.toNat)) 0)
    false
    true
def w12_firstR (a0 : List XObj) (a1 : Int) : RT :=
  (.ask (w12_firstLF a0 a1 ((a1.toNat)) 0)
    (.leaf .ret ⟨slots 22 [(4, .bool false)], []⟩ [])
    (.leaf .ret ⟨slots 22 [(4, .bool true)], []⟩ []))
theorem w12_firstF_tr (a0 : List XObj) (a1 : Int) (hp0 : a0.length < 4611686018427387904) (hp1 : 0 ≤ a1) (hp2 : a1 < (a0.length : Int)) : Tr Tryd.prog 0 (bodyOf Tryd.f21) (fnBegins Tryd.f21 [.coll ⟨.obj, a0⟩, .int .i64 a1] []) (fnEnds Tryd.prog Tryd.f21 (.bool (w12_firstF a0 a1)) []) := by
  refine Tr_tree (kok _ _ _ _ _ _) (E := E_w12_first) (L := (loopsOf [(0, w12_firstLS a0 a1 0, [], w12_firstLT a0 a1 0)])) 60 9999 (LoopsOk.one (g := loopAt Tryd.f21 0) (b := 0) (by kernel_rfl) (by kernel_rfl) (by kernel_rfl) (by kernel_rfl) (fun Q h => w12_firstL_loop a0 a1 hp0 hp1 hp2 (by first | assumption | omega | (simp only [List.length_cons, List.length_nil, List.length_append]; omega)) ⟨0, by first | exact Nat.zero_le _ | (show 0 ≤ (a1.toNat); omega) | (show 0 ≤ (a1.toNat); exact ⟨Nat.zero_le _, by assumption⟩) | (show 0 ≤ (a1.toNat); simp)⟩ Q h)) (w12_firstR a0 a1) (by kernel_rfl) (by kernel_rfl) (by kernel_rfl) ?_
  unfold w12_firstR
  refine ⟨fun h0 => ?_, fun h0 => ?_⟩
  · have hF : w12_firstF a0 a1 = false := by first | exact (cond_t h0 rfl) | simp only [w12_firstF, h0, cond_true, cond_false]
    exact ⟨trivial, .inl (by first | (rw [hF]; kernel_rfl) | kernel_rfl), by first | (rw [hF]; kernel_rfl) | kernel_rfl⟩
  · have hF : w12_firstF a0 a1 = true := by first | exact (cond_f h0 rfl) | simp only [w12_firstF, h0, cond_true, cond_false]
    exact ⟨trivial, .inl (by first | (rw [hF]; kernel_rfl) | kernel_rfl), by first | (rw [hF]; kernel_rfl) | kernel_rfl⟩
noncomputable def w12_first_fact : Fact Tryd.prog := factOf 21 Tryd.f21 (by kernel_rfl) rfl (by kernel_rfl) [.c (.coll .obj), .c (.int .i64)] [] true (fun t u => .bool (w12_firstF t.1 t.2.1)) (fun t u => []) (fun t u => [t.1.length < 4611686018427387904, 0 ≤ t.2.1, t.2.1 < (t.1.length : Int)])
  (fun _ _ _ => rfl) (fun t u => by kernel_rfl) (fun t u => by kernel_rfl) (fun t u h => w12_firstF_tr t.1 t.2.1 (h _ List.mem_cons_self) (h _ (List.mem_cons_of_mem _ List.mem_cons_self)) (h _ (List.mem_cons_of_mem _ (List.mem_cons_of_mem _ List.mem_cons_self))))
end Go.Proofs.YtnfmnipckcidlaaDoor
