/- Bind: what is done next for a claim, as the document says. -/
import Derived.Test.YtnfmnipckcidlaaDoorDH1
set_option linter.unusedVariables false
set_option linter.unusedSimpArgs false
set_option maxRecDepth 100000
namespace Go.Proofs.YtnfmnipckcidlaaDoor
open Go Go.Eng
noncomputable def E_r12_used : Env := envOf (P := Tryd.prog) [] [] [] ckf
def r12_usedLF (a1 : XObj) : List XObj → Bool
  | [] => false
  | o :: r => cond (cond (cond ((o.kind) == (6 : Int)) (decide ((o.claim) = a1.name)) false) true (cond ((o.kind) == (5 : Int)) (decide ((o.volume) = a1.volume)) false))
    true
    (r12_usedLF a1 r)
def r12_usedLS (a0 : List XObj) (a1 : XObj) (i : Nat) : St :=
  ⟨slots 46 [(0, .coll ⟨.obj, a0⟩), (3, .ptr 0 0), (5, .int .i64 (i : Int))], [.cells 31 (oc a1)]⟩
def r12_usedLR (a0 : List XObj) (a1 : XObj) (i : Nat) : RT :=
  (.ask (decide ((i : Int) < (a0.length : Int)))
    (.need [0 ≤ (i : Int) ∧ (i : Int) < (a0.length : Int), ((((a0.getD i default).kind) == (6 : Int)) = true) → (0 ≤ (i : Int) ∧ (i : Int) < (a0.length : Int)), ((cond (((a0.getD i default).kind) == (6 : Int)) (decide (((a0.getD i default).claim) = a1.name)) false) = false) → (0 ≤ (i : Int) ∧ (i : Int) < (a0.length : Int)), (((cond (((a0.getD i default).kind) == (6 : Int)) (decide (((a0.getD i default).claim) = a1.name)) false) = false) ∧ (((a0.getD i default).kind) == (5 : Int)) = true) → (0 ≤ (i : Int) ∧ (i : Int) < (a0.length : Int))]
      (.ask (cond (cond (((a0.getD i default).kind) == (6 : Int)) (decide (((a0.getD i default).claim) = a1.name)) false) true (cond (((a0.getD i default).kind) == (5 : Int)) (decide (((a0.getD i default).volume) = a1.volume)) false))
        (.leaf .ret ⟨slots 46 [(4, .bool true)], []⟩ [])
        (.leaf .normal ⟨slots 46 [(0, .coll ⟨.obj, a0⟩), (3, .ptr 0 0), (5, .int .i64 (IntKind.i64.wrap ((i : Int) + (1 : Int))))], [.cells 31 (oc a1)]⟩ [])))
    (.leaf (.exit 0) ⟨slots 46 [], []⟩ []))
def r12_usedLT (a0 : List XObj) (a1 : XObj) (i : Nat) : Tree :=
  .ask (r12_usedLF a1 (a0.drop i)) (.leaf .ret ⟨slots 46 [(4, .bool true)], []⟩) (.leaf (.exit 0) ⟨slots 46 [], []⟩)
theorem r12_usedL_loop (a0 : List XObj) (a1 : XObj) (hp0 : a0.length < 4611686018427387904) (hlen : a0.length < 4611686018427387904) (z : { z : Nat // z ≤ a0.length }) (Q : Exit → St → Prop) (h : (r12_usedLT a0 a1 z.1).All Q) : Tr Tryd.prog 0 (.loop (loopAt Tryd.f42 0)) (r12_usedLS a0 a1 z.1) Q := by
  refine Tr_loopT (kok _ _ _ _ _ _) (E := E_r12_used) (ι := { z : Nat // z ≤ a0.length }) 60 0 (fun _ => noLoops) (fun z => r12_usedLS a0 a1 z.1) (fun z => r12_usedLT a0 a1 z.1) (fun z => r12_usedLR a0 a1 z.1) (fun z => a0.length - z.1) (fun _ => LoopsOk.none) (fun z => by obtain ⟨i, hi⟩ := z; kernel_rfl) (fun z => by obtain ⟨i, hi⟩ := z; kernel_rfl) (fun z => by obtain ⟨i, hi⟩ := z; kernel_rfl) ?_ z Q h
  rintro ⟨i, hi⟩ Q hT
  replace hT : (r12_usedLT a0 a1 i).All Q := hT
  replace hi : i ≤ a0.length := hi
  show (r12_usedLR a0 a1 i).All _
  unfold r12_usedLR
  refine ⟨fun h0 => ?_, fun h0 => ?_⟩
  · have hlt : i < a0.length := by simpa using h0
    have hd := drop_getD hlt
    have hw := wrap_succ (i := i) (by omega)
    refine ⟨need_cons (by first | assumption | omega | (intro; omega) | (simp only [decide_eq_true_eq, decide_eq_false_iff_not, Bool.cond_false_right, Bool.cond_true_right, Bool.cond_true_left, Bool.cond_false_left, Bool.and_eq_true, Bool.or_eq_true, Bool.not_eq_true', bytesLim, maxLen, List.length_cons, List.length_nil, List.length_append, byteSize_lit] at *; omega) | (intro; simp only [decide_eq_true_eq, decide_eq_false_iff_not, Bool.cond_false_right, Bool.cond_true_right, Bool.cond_true_left, Bool.cond_false_left, Bool.and_eq_true, Bool.or_eq_true, Bool.not_eq_true', bytesLim, maxLen, List.length_cons, List.length_nil, List.length_append, byteSize_lit] at *; omega)) (need_cons (by first | assumption | omega | (intro; omega) | (simp only [decide_eq_true_eq, decide_eq_false_iff_not, Bool.cond_false_right, Bool.cond_true_right, Bool.cond_true_left, Bool.cond_false_left, Bool.and_eq_true, Bool.or_eq_true, Bool.not_eq_true', bytesLim, maxLen, List.length_cons, List.length_nil, List.length_append, byteSize_lit] at *; omega) | (intro; simp only [decide_eq_true_eq, decide_eq_false_iff_not, Bool.cond_false_right, Bool.cond_true_right, Bool.cond_true_left, Bool.cond_false_left, Bool.and_eq_true, Bool.or_eq_true, Bool.not_eq_true', bytesLim, maxLen, List.length_cons, List.length_nil, List.length_append, byteSize_lit] at *; omega)) (need_cons (by first | assumption | omega | (intro; omega) | (simp only [decide_eq_true_eq, decide_eq_false_iff_not, Bool.cond_false_right, Bool.cond_true_right, Bool.cond_true_left, Bool.cond_false_left, Bool.and_eq_true, Bool.or_eq_true, Bool.not_eq_true', bytesLim, maxLen, List.length_cons, List.length_nil, List.length_append, byteSize_lit] at *; omega) | (intro; simp only [decide_eq_true_eq, decide_eq_false_iff_not, Bool.cond_false_right, Bool.cond_true_right, Bool.cond_true_left, Bool.cond_false_left, Bool.and_eq_true, Bool.or_eq_true, Bool.not_eq_true', bytesLim, maxLen, List.length_cons, List.length_nil, List.length_append, byteSize_lit] at *; omega)) (need_cons (by first | assumption | omega | (intro; omega) | (simp only [decide_eq_true_eq, decide_eq_false_iff_not, Bool.cond_false_right, Bool.cond_true_right, Bool.cond_true_left, Bool.cond_false_left, Bool.and_eq_true, Bool.or_eq_true, Bool.not_eq_true', bytesLim, maxLen, List.length_cons, List.length_nil, List.length_append, byteSize_lit] at *; omega) | (intro; simp only [decide_eq_true_eq, decide_eq_false_iff_not, Bool.cond_false_right, Bool.cond_true_right, Bool.cond_true_left, Bool.cond_false_left, Bool.and_eq_true, Bool.or_eq_true, Bool.not_eq_true', bytesLim, maxLen, List.length_cons, List.length_nil, List.length_append, byteSize_lit] at *; omega)) (need_nil)))), ?_⟩
    refine ⟨fun h1 => ?_, fun h1 => ?_⟩
    · have hF : r12_usedLF a1 (a0.drop i) = true := by rw [hd]; first | exact (cond_t h1 rfl) | simp only [r12_usedLF, h0, h1, cond_true, cond_false]
      unfold r12_usedLT at hT
      rw [hF] at hT
      exact hT.1 rfl
    · have hF : r12_usedLF a1 (a0.drop i) = r12_usedLF a1 (a0.drop (i + 1)) := by rw [hd]; first | exact (cond_f h1 rfl) | simp only [r12_usedLF, h0, h1, cond_true, cond_false]
      refine ⟨⟨(i + 1), by show (i + 1) ≤ a0.length; omega⟩, by show a0.length - (i + 1) < a0.length - i; omega, ?_, ?_⟩
      · show _ = r12_usedLS a0 a1 (i + 1)
        unfold r12_usedLS
        simp only [hw]
      · show (r12_usedLT a0 a1 (i + 1)).All Q
        unfold r12_usedLT at hT ⊢
        rw [hF] at hT
        exact hT
  · have hge : ¬ i < a0.length := by simpa using h0
    have hd : a0.drop i = [] := List.drop_eq_nil_of_le (by omega)
    have hF : r12_usedLF a1 (a0.drop i) = false := by rw [hd]; first | exact rfl | simp only [r12_usedLF, h0, cond_true, cond_false]
    unfold r12_usedLT at hT
    rw [hF] at hT
    exact hT.2 rfl
def r12_usedF (a0 : List XObj) (a1 : XObj) : Bool :=
  cond (r12_usedLF a1 a0)
    true
    false
def r12_usedR (a0 : List XObj) (a1 : XObj) : RT :=
  (.ask (r12_usedLF a1 a0)
    (.leaf .ret ⟨slots 46 [(4, .bool true)], []⟩ [])
    (.leaf .ret ⟨slots 46 [(4, .bool false)], []⟩ []))
theorem r12_usedF_tr (a0 : List XObj) (a1 : XObj) (hp0 : a0.length < 4611686018427387904) : Tr Tryd.prog 0 (bodyOf Tryd.f42) (fnBegins Tryd.f42 [.coll ⟨.obj, a0⟩, .agg (oc a1)] []) (fnEnds Tryd.prog Tryd.f42 (.bool (r12_usedF a0 a1)) []) := by
  refine Tr_tree (kok _ _ _ _ _ _) (E := E_r12_used) (L := (loopsOf [(0, r12_usedLS a0 a1 0, [], r12_usedLT a0 a1 0)])) 60 9999 (LoopsOk.one (g := loopAt Tryd.f42 0) (b := 0) (by kernel_rfl) (by kernel_rfl) (by kernel_rfl) (by kernel_rfl) (fun Q h => r12_usedL_loop a0 a1 hp0 (by first | assumption | omega | (simp only [List.length_cons, List.length_nil, List.length_append]; omega)) ⟨0, by first | exact Nat.zero_le _ | (show 0 ≤ a0.length; omega) | (show 0 ≤ a0.length; exact ⟨Nat.zero_le _, by assumption⟩) | (show 0 ≤ a0.length; simp)⟩ Q h)) (r12_usedR a0 a1) (by kernel_rfl) (by kernel_rfl) (by kernel_rfl) ?_
  unfold r12_usedR
  refine ⟨fun h0 => ?_, fun h0 => ?_⟩
  · have hF : r12_usedF a0 a1 = true := by first | exact (cond_t h0 rfl) | simp only [r12_usedF, h0, cond_true, cond_false]
    exact ⟨trivial, .inl (by first | (rw [hF]; kernel_rfl) | kernel_rfl), by first | (rw [hF]; kernel_rfl) | kernel_rfl⟩
  · have hF : r12_usedF a0 a1 = false := by first | exact (cond_f h0 rfl) | simp only [r12_usedF, h0, cond_true, cond_false]
    exact ⟨trivial, .inl (by first | (rw [hF]; kernel_rfl) | kernel_rfl), by first | (rw [hF]; kernel_rfl) | kernel_rfl⟩
noncomputable def r12_used_fact : Fact Tryd.prog := factOf 42 Tryd.f42 (by kernel_rfl) rfl (by kernel_rfl) [.c (.coll .obj), .st .obj] [] true (fun t u => .bool (r12_usedF t.1 t.2.1)) (fun t u => []) (fun t u => [t.1.length < 4611686018427387904])
  (fun _ _ _ => rfl) (fun t u => by kernel_rfl) (fun t u => by kernel_rfl) (fun t u h => r12_usedF_tr t.1 t.2.1 (h _ List.mem_cons_self))
noncomputable def E_r12_Remove : Env := envOf (P := Tryd.prog) [] [] [] ckf
def r12_RemoveF (a0 : XObj) : XAct :=
  (⟨(2 : Int), a0, (default : XCall)⟩ : XAct)
def r12_RemoveR (a0 : XObj) : RT :=
  (.leaf .ret ⟨slots 5 [(2, .ptr 0 0)], [.cells 36 [.int .u8 2, .int .u8 a0.kind, .str a0.name, .int .u64 a0.version, .int .u64 a0.born, .bool a0.deleting, .bool a0.hold, .str a0.cls, .int .i64 a0.size, .int .i64 a0.got, .int .u8 a0.mode, .bool a0.keep, .bool a0.wait, .str a0.zone, .str a0.node, .str a0.claim, .str a0.volume, .str a0.source, .int .u8 a0.phase, .int .u64 a0.num, .int .u64 a0.tag, .int .u8 0, .str (⟨#[]⟩ : ByteArray), .int .u64 0, .int .i64 0, .str (⟨#[]⟩ : ByteArray), .str (⟨#[]⟩ : ByteArray), .str (⟨#[]⟩ : ByteArray)]]⟩ [1])
theorem r12_RemoveF_tr (a0 : XObj)  : Tr Tryd.prog 0 (bodyOf Tryd.f43) (fnBegins Tryd.f43 [.agg (oc a0)] []) (fnEnds Tryd.prog Tryd.f43 (.agg (ac (r12_RemoveF a0))) []) := by
  refine Tr_tree (kok _ _ _ _ _ _) (E := E_r12_Remove) (L := noLoops) 60 9999 LoopsOk.none (r12_RemoveR a0) (by kernel_rfl) (by kernel_rfl) (by kernel_rfl) ?_
  unfold r12_RemoveR
  exact ⟨trivial, .inl (by kernel_rfl), by kernel_rfl⟩
noncomputable def r12_Remove_fact : Fact Tryd.prog := factOf 43 Tryd.f43 (by kernel_rfl) rfl (by kernel_rfl) [.st .obj] [] true (fun t u => .agg (ac (r12_RemoveF t.1))) (fun t u => []) (fun t u => [])
  (fun _ _ _ => rfl) (fun t u => by kernel_rfl) (fun t u => by kernel_rfl) (fun t u h => r12_RemoveF_tr t.1 )
noncomputable def E_r12_volume : Env := envOf (P := Tryd.prog) [r12_Ref_fact] [] [] ckf
def r12_volumeLF (a1 : XObj) : List XObj → Bool → XObj → Bool × XObj
  | [], v1, v5 => (v1, v5)
  | o :: r, v1, v5 => cond (cond (cond ((o.kind) == (4 : Int)) (decide ((o.claim) = (r12_RefF a1))) false) (cond (!v1) true (strLess (o.name) v5.name)) false)
    (r12_volumeLF a1 r true o)
    (r12_volumeLF a1 r v1 v5)
def r12_volumeLS (a0 : List XObj) (a1 : XObj) (v1 : Bool) (i : Nat) (v5 : XObj) : St :=
  ⟨slots 51 [(0, .coll ⟨.obj, a0⟩), (3, .ptr 0 0), (4, .ptr 1 0), (6, .ptr 2 0), (7, .bool v1), (8, .int .i64 (i : Int))], [.cells 31 (oc a1), .cells 31 [.int .u8 0, .str (⟨#[]⟩ : ByteArray), .int .u64 0, .int .u64 0, .bool false, .bool false, .str (⟨#[]⟩ : ByteArray), .int .i64 0, .int .i64 0, .int .u8 0, .bool false, .bool false, .str (⟨#[]⟩ : ByteArray), .str (⟨#[]⟩ : ByteArray), .str (⟨#[]⟩ : ByteArray), .str (⟨#[]⟩ : ByteArray), .str (⟨#[]⟩ : ByteArray), .int .u8 0, .int .u64 0, .int .u64 0], .cells 31 (oc v5)]⟩
def r12_volumeLR (a0 : List XObj) (a1 : XObj) (v1 : Bool) (i : Nat) (v5 : XObj) : RT :=
  (.ask (decide ((i : Int) < (a0.length : Int)))
    (.need [0 ≤ (i : Int) ∧ (i : Int) < (a0.length : Int), ((((a0.getD i default).kind) == (4 : Int)) = true) → (0 ≤ (i : Int) ∧ (i : Int) < (a0.length : Int)), ((((a0.getD i default).kind) == (4 : Int)) = true) → (a1.Fine), (((cond (((a0.getD i default).kind) == (4 : Int)) (decide (((a0.getD i default).claim) = (r12_RefF a1))) false) = true) ∧ (!v1) = false) → (0 ≤ (i : Int) ∧ (i : Int) < (a0.length : Int))]
      (.ask (cond (cond (((a0.getD i default).kind) == (4 : Int)) (decide (((a0.getD i default).claim) = (r12_RefF a1))) false) (cond (!v1) true (strLess ((a0.getD i default).name) v5.name)) false)
        (.need [0 ≤ (i : Int) ∧ (i : Int) < (a0.length : Int)]
          (.leaf .normal ⟨slots 51 [(0, .coll ⟨.obj, a0⟩), (3, .ptr 0 0), (4, .ptr 1 0), (6, .ptr 2 0), (7, .bool true), (8, .int .i64 (IntKind.i64.wrap ((i : Int) + (1 : Int))))], [.cells 31 (oc a1), .cells 31 [.int .u8 0, .str (⟨#[]⟩ : ByteArray), .int .u64 0, .int .u64 0, .bool false, .bool false, .str (⟨#[]⟩ : ByteArray), .int .i64 0, .int .i64 0, .int .u8 0, .bool false, .bool false, .str (⟨#[]⟩ : ByteArray), .str (⟨#[]⟩ : ByteArray), .str (⟨#[]⟩ : ByteArray), .str (⟨#[]⟩ : ByteArray), .str (⟨#[]⟩ : ByteArray), .int .u8 0, .int .u64 0, .int .u64 0], .cells 31 (oc (a0.getD i default))]⟩ []))
        (.leaf .normal ⟨slots 51 [(0, .coll ⟨.obj, a0⟩), (3, .ptr 0 0), (4, .ptr 1 0), (6, .ptr 2 0), (7, .bool v1), (8, .int .i64 (IntKind.i64.wrap ((i : Int) + (1 : Int))))], [.cells 31 (oc a1), .cells 31 [.int .u8 0, .str (⟨#[]⟩ : ByteArray), .int .u64 0, .int .u64 0, .bool false, .bool false, .str (⟨#[]⟩ : ByteArray), .int .i64 0, .int .i64 0, .int .u8 0, .bool false, .bool false, .str (⟨#[]⟩ : ByteArray), .str (⟨#[]⟩ : ByteArray), .str (⟨#[]⟩ : ByteArray), .str (⟨#[]⟩ : ByteArray), .str (⟨#[]⟩ : ByteArray), .int .u8 0, .int .u64 0, .int .u64 0], .cells 31 (oc v5)]⟩ [])))
    (.leaf (.exit 0) ⟨slots 51 [(4, .ptr 0 0), (6, .ptr 1 0), (7, .bool v1)], [.cells 31 [.int .u8 0, .str (⟨#[]⟩ : ByteArray), .int .u64 0, .int .u64 0, .bool false, .bool false, .str (⟨#[]⟩ : ByteArray), .int .i64 0, .int .i64 0, .int .u8 0, .bool false, .bool false, .str (⟨#[]⟩ : ByteArray), .str (⟨#[]⟩ : ByteArray), .str (⟨#[]⟩ : ByteArray), .str (⟨#[]⟩ : ByteArray), .str (⟨#[]⟩ : ByteArray), .int .u8 0, .int .u64 0, .int .u64 0], .cells 31 (oc v5)]⟩ [1, 2]))
def r12_volumeLT (a0 : List XObj) (a1 : XObj) (v1 : Bool) (i : Nat) (v5 : XObj) : Tree :=
  .leaf (.exit 0) ⟨slots 51 [(4, .ptr 0 0), (6, .ptr 1 0), (7, .bool ((r12_volumeLF a1 (a0.drop i) v1 v5).1))], [.cells 31 [.int .u8 0, .str (⟨#[]⟩ : ByteArray), .int .u64 0, .int .u64 0, .bool false, .bool false, .str (⟨#[]⟩ : ByteArray), .int .i64 0, .int .i64 0, .int .u8 0, .bool false, .bool false, .str (⟨#[]⟩ : ByteArray), .str (⟨#[]⟩ : ByteArray), .str (⟨#[]⟩ : ByteArray), .str (⟨#[]⟩ : ByteArray), .str (⟨#[]⟩ : ByteArray), .int .u8 0, .int .u64 0, .int .u64 0], .cells 31 (oc ((r12_volumeLF a1 (a0.drop i) v1 v5).2))]⟩
theorem r12_volumeL_loop (a0 : List XObj) (a1 : XObj) (hp0 : a0.length < 4611686018427387904) (hp1 : a1.Fine) (hlen : a0.length < 4611686018427387904) (z : { z : Bool × Nat × XObj // z.2.1 ≤ a0.length }) (Q : Exit → St → Prop) (h : (r12_volumeLT a0 a1 z.1.1 z.1.2.1 z.1.2.2).All Q) : Tr Tryd.prog 0 (.loop (loopAt Tryd.f44 0)) (r12_volumeLS a0 a1 z.1.1 z.1.2.1 z.1.2.2) Q := by
  refine Tr_loopT (kok _ _ _ _ _ _) (E := E_r12_volume) (ι := { z : Bool × Nat × XObj // z.2.1 ≤ a0.length }) 60 0 (fun _ => noLoops) (fun z => r12_volumeLS a0 a1 z.1.1 z.1.2.1 z.1.2.2) (fun z => r12_volumeLT a0 a1 z.1.1 z.1.2.1 z.1.2.2) (fun z => r12_volumeLR a0 a1 z.1.1 z.1.2.1 z.1.2.2) (fun z => a0.length - z.1.2.1) (fun _ => LoopsOk.none) (fun z => by obtain ⟨⟨v1, i, v5⟩, hi⟩ := z; kernel_rfl) (fun z => by obtain ⟨⟨v1, i, v5⟩, hi⟩ := z; kernel_rfl) (fun z => by obtain ⟨⟨v1, i, v5⟩, hi⟩ := z; kernel_rfl) ?_ z Q h
  rintro ⟨⟨v1, i, v5⟩, hi⟩ Q hT
  replace hT : (r12_volumeLT a0 a1 v1 i v5).All Q := hT
  replace hi : i ≤ a0.length := hi
  show (r12_volumeLR a0 a1 v1 i v5).All _
  unfold r12_volumeLR
  refine ⟨fun h0 => ?_, fun h0 => ?_⟩
  · have hlt : i < a0.length := by simpa using h0
    have hd := drop_getD hlt
    have hw := wrap_succ (i := i) (by omega)
    refine ⟨need_cons (by first | assumption | omega | (intro; omega) | (simp only [decide_eq_true_eq, decide_eq_false_iff_not, Bool.cond_false_right, Bool.cond_true_right, Bool.cond_true_left, Bool.cond_false_left, Bool.and_eq_true, Bool.or_eq_true, Bool.not_eq_true', bytesLim, maxLen, List.length_cons, List.length_nil, List.length_append, byteSize_lit] at *; omega) | (intro; simp only [decide_eq_true_eq, decide_eq_false_iff_not, Bool.cond_false_right, Bool.cond_true_right, Bool.cond_true_left, Bool.cond_false_left, Bool.and_eq_true, Bool.or_eq_true, Bool.not_eq_true', bytesLim, maxLen, List.length_cons, List.length_nil, List.length_append, byteSize_lit] at *; omega)) (need_cons (by first | assumption | omega | (intro; omega) | (simp only [decide_eq_true_eq, decide_eq_false_iff_not, Bool.cond_false_right, Bool.cond_true_right, Bool.cond_true_left, Bool.cond_false_left, Bool.and_eq_true, Bool.or_eq_true, Bool.not_eq_true', bytesLim, maxLen, List.length_cons, List.length_nil, List.length_append, byteSize_lit] at *; omega) | (intro; simp only [decide_eq_true_eq, decide_eq_false_iff_not, Bool.cond_false_right, Bool.cond_true_right, Bool.cond_true_left, Bool.cond_false_left, Bool.and_eq_true, Bool.or_eq_true, Bool.not_eq_true', bytesLim, maxLen, List.length_cons, List.length_nil, List.length_append, byteSize_lit] at *; omega)) (need_cons (by (try refine fun (_ : _ = _) => ?_); first | assumption | exact get_fine _ _ _ (by first | assumption | exact of_fine _ (by first | assumption | exact w12_few_fine (by assumption)) | exact r12_Uniq_fine _ (by first | assumption | exact w12_few_fine (by assumption)) | exact w12_few_fine (by assumption)) | exact r12_Get_fine _ _ _ (by first | assumption | exact of_fine _ (by first | assumption | exact w12_few_fine (by assumption)) | exact r12_Uniq_fine _ (by first | assumption | exact w12_few_fine (by assumption)) | exact w12_few_fine (by assumption)) | exact fine_default | exact hp1 _ (gD_mem (by assumption)) | exact r12_Uniq_fine _ (by assumption) _ (gD_mem (by assumption)) | exact of_fine _ (by assumption) _ (gD_mem (by assumption)) | exact w12_few_fine (by assumption) _ (gD_mem (by assumption)) | exact hp1 | exact hp0 | (refine ⟨?_, ?_, ?_, ?_, ?_, ?_, ?_, ?_, ?_⟩ <;> first | assumption | decide | (simp only [size_mk]; decide))) (need_cons (by first | assumption | omega | (intro; omega) | (simp only [decide_eq_true_eq, decide_eq_false_iff_not, Bool.cond_false_right, Bool.cond_true_right, Bool.cond_true_left, Bool.cond_false_left, Bool.and_eq_true, Bool.or_eq_true, Bool.not_eq_true', bytesLim, maxLen, List.length_cons, List.length_nil, List.length_append, byteSize_lit] at *; omega) | (intro; simp only [decide_eq_true_eq, decide_eq_false_iff_not, Bool.cond_false_right, Bool.cond_true_right, Bool.cond_true_left, Bool.cond_false_left, Bool.and_eq_true, Bool.or_eq_true, Bool.not_eq_true', bytesLim, maxLen, List.length_cons, List.length_nil, List.length_append, byteSize_lit] at *; omega)) (need_nil)))), ?_⟩
    refine ⟨fun h1 => ?_, fun h1 => ?_⟩
    · refine ⟨need_cons (by first | assumption | omega | (intro; omega) | (simp only [decide_eq_true_eq, decide_eq_false_iff_not, Bool.cond_false_right, Bool.cond_true_right, Bool.cond_true_left, Bool.cond_false_left, Bool.and_eq_true, Bool.or_eq_true, Bool.not_eq_true', bytesLim, maxLen, List.length_cons, List.length_nil, List.length_append, byteSize_lit] at *; omega) | (intro; simp only [decide_eq_true_eq, decide_eq_false_iff_not, Bool.cond_false_right, Bool.cond_true_right, Bool.cond_true_left, Bool.cond_false_left, Bool.and_eq_true, Bool.or_eq_true, Bool.not_eq_true', bytesLim, maxLen, List.length_cons, List.length_nil, List.length_append, byteSize_lit] at *; omega)) (need_nil), ?_⟩
      have hF : r12_volumeLF a1 (a0.drop i) v1 v5 = r12_volumeLF a1 (a0.drop (i + 1)) true (a0.getD i default) := by rw [hd]; first | exact (cond_t h1 rfl) | simp only [r12_volumeLF, h0, h1, cond_true, cond_false]
      refine ⟨⟨(true, (i + 1), (a0.getD i default)), by show (i + 1) ≤ a0.length; omega⟩, by show a0.length - (i + 1) < a0.length - i; omega, ?_, ?_⟩
      · show _ = r12_volumeLS a0 a1 true (i + 1) (a0.getD i default)
        unfold r12_volumeLS
        simp only [hw]
      · show (r12_volumeLT a0 a1 true (i + 1) (a0.getD i default)).All Q
        unfold r12_volumeLT at hT ⊢
        rw [hF] at hT
        exact hT
    · have hF : r12_volumeLF a1 (a0.drop i) v1 v5 = r12_volumeLF a1 (a0.drop (i + 1)) v1 v5 := by rw [hd]; first | exact (cond_f h1 rfl) | simp only [r12_volumeLF, h0, h1, cond_true, cond_false]
      refine ⟨⟨(v1, (i + 1), v5), by show (i + 1) ≤ a0.length; omega⟩, by show a0.length - (i + 1) < a0.length - i; omega, ?_, ?_⟩
      · show _ = r12_volumeLS a0 a1 v1 (i + 1) v5
        unfold r12_volumeLS
        simp only [hw]
      · show (r12_volumeLT a0 a1 v1 (i + 1) v5).All Q
        unfold r12_volumeLT at hT ⊢
        rw [hF] at hT
        exact hT
  · have hge : ¬ i < a0.length := by simpa using h0
    have hd : a0.drop i = [] := List.drop_eq_nil_of_le (by omega)
    have hF : r12_volumeLF a1 (a0.drop i) v1 v5 = (v1, v5) := by rw [hd]; first | exact rfl | simp only [r12_volumeLF, h0, cond_true, cond_false]
    unfold r12_volumeLT at hT
    rw [hF] at hT
    exact hT
def r12_volumeF (a0 : List XObj) (a1 : XObj) : XObj × Bool :=
  (((r12_volumeLF a1 a0 false (default : XObj)).2), (r12_volumeLF a1 a0 false (default : XObj)).1)
def r12_volumeR (a0 : List XObj) (a1 : XObj) : RT :=
  (.leaf .ret ⟨slots 51 [(4, .ptr 0 0), (5, .bool ((r12_volumeLF a1 a0 false (default : XObj)).1))], [.cells 31 (oc ((r12_volumeLF a1 a0 false (default : XObj)).2))]⟩ [])
theorem r12_volumeF_tr (a0 : List XObj) (a1 : XObj) (hp0 : a0.length < 4611686018427387904) (hp1 : a1.Fine) : Tr Tryd.prog 0 (bodyOf Tryd.f44) (fnBegins Tryd.f44 [.coll ⟨.obj, a0⟩, .agg (oc a1)] []) (fnEnds Tryd.prog Tryd.f44 (.tup [.agg (oc ((r12_volumeF a0 a1).1)), .bool ((r12_volumeF a0 a1).2)]) []) := by
  refine Tr_tree (kok _ _ _ _ _ _) (E := E_r12_volume) (L := (loopsOf [(0, r12_volumeLS a0 a1 false 0 (default : XObj), [], r12_volumeLT a0 a1 false 0 (default : XObj))])) 60 9999 (LoopsOk.one (g := loopAt Tryd.f44 0) (b := 0) (by kernel_rfl) (by kernel_rfl) (by kernel_rfl) (by kernel_rfl) (fun Q h => r12_volumeL_loop a0 a1 hp0 hp1 (by first | assumption | omega | (simp only [List.length_cons, List.length_nil, List.length_append]; omega)) ⟨(false, 0, (default : XObj)), by first | exact Nat.zero_le _ | (show 0 ≤ a0.length; omega) | (show 0 ≤ a0.length; exact ⟨Nat.zero_le _, by assumption⟩) | (show 0 ≤ a0.length; simp)⟩ Q h)) (r12_volumeR a0 a1) (by kernel_rfl) (by kernel_rfl) (by kernel_rfl) ?_
  unfold r12_volumeR
  exact ⟨trivial, .inl (by kernel_rfl), by kernel_rfl⟩
noncomputable def r12_volume_fact : Fact Tryd.prog := factOf 44 Tryd.f44 (by kernel_rfl) rfl (by kernel_rfl) [.c (.coll .obj), .st .obj] [] true (fun t u => .tup [.agg (oc ((r12_volumeF t.1 t.2.1).1)), .bool ((r12_volumeF t.1 t.2.1).2)]) (fun t u => []) (fun t u => [t.1.length < 4611686018427387904, t.2.1.Fine])
  (fun _ _ _ => rfl) (fun t u => by kernel_rfl) (fun t u => by kernel_rfl) (fun t u h => r12_volumeF_tr t.1 t.2.1 (h _ List.mem_cons_self) (h _ (List.mem_cons_of_mem _ List.mem_cons_self)))
noncomputable def E_r12_Write : Env := envOf (P := Tryd.prog) [] [] [] ckf
def r12_WriteF (a0 : XObj) : XAct :=
  (⟨(1 : Int), a0, (default : XCall)⟩ : XAct)
def r12_WriteR (a0 : XObj) : RT :=
  (.leaf .ret ⟨slots 5 [(2, .ptr 0 0)], [.cells 36 [.int .u8 1, .int .u8 a0.kind, .str a0.name, .int .u64 a0.version, .int .u64 a0.born, .bool a0.deleting, .bool a0.hold, .str a0.cls, .int .i64 a0.size, .int .i64 a0.got, .int .u8 a0.mode, .bool a0.keep, .bool a0.wait, .str a0.zone, .str a0.node, .str a0.claim, .str a0.volume, .str a0.source, .int .u8 a0.phase, .int .u64 a0.num, .int .u64 a0.tag, .int .u8 0, .str (⟨#[]⟩ : ByteArray), .int .u64 0, .int .i64 0, .str (⟨#[]⟩ : ByteArray), .str (⟨#[]⟩ : ByteArray), .str (⟨#[]⟩ : ByteArray)]]⟩ [1])
theorem r12_WriteF_tr (a0 : XObj)  : Tr Tryd.prog 0 (bodyOf Tryd.f45) (fnBegins Tryd.f45 [.agg (oc a0)] []) (fnEnds Tryd.prog Tryd.f45 (.agg (ac (r12_WriteF a0))) []) := by
  refine Tr_tree (kok _ _ _ _ _ _) (E := E_r12_Write) (L := noLoops) 60 9999 LoopsOk.none (r12_WriteR a0) (by kernel_rfl) (by kernel_rfl) (by kernel_rfl) ?_
  unfold r12_WriteR
  exact ⟨trivial, .inl (by kernel_rfl), by kernel_rfl⟩
noncomputable def r12_Write_fact : Fact Tryd.prog := factOf 45 Tryd.f45 (by kernel_rfl) rfl (by kernel_rfl) [.st .obj] [] true (fun t u => .agg (ac (r12_WriteF t.1))) (fun t u => []) (fun t u => [])
  (fun _ _ _ => rfl) (fun t u => by kernel_rfl) (fun t u => by kernel_rfl) (fun t u h => r12_WriteF_tr t.1 )
noncomputable def E_r12_Ask : Env := envOf (P := Tryd.prog) [] [] [] ckf
def r12_AskF (a0 : XCall) : XAct :=
  (⟨(3 : Int), (default : XObj), a0⟩ : XAct)
def r12_AskR (a0 : XCall) : RT :=
  (.leaf .ret ⟨slots 5 [(2, .ptr 0 0)], [.cells 36 [.int .u8 3, .int .u8 0, .str (⟨#[]⟩ : ByteArray), .int .u64 0, .int .u64 0, .bool false, .bool false, .str (⟨#[]⟩ : ByteArray), .int .i64 0, .int .i64 0, .int .u8 0, .bool false, .bool false, .str (⟨#[]⟩ : ByteArray), .str (⟨#[]⟩ : ByteArray), .str (⟨#[]⟩ : ByteArray), .str (⟨#[]⟩ : ByteArray), .str (⟨#[]⟩ : ByteArray), .int .u8 0, .int .u64 0, .int .u64 0, .int .u8 a0.verb, .str a0.target, .int .u64 a0.num, .int .i64 a0.size, .str a0.zone, .str a0.node, .str a0.source]]⟩ [1])
theorem r12_AskF_tr (a0 : XCall)  : Tr Tryd.prog 0 (bodyOf Tryd.f46) (fnBegins Tryd.f46 [.agg (cc a0)] []) (fnEnds Tryd.prog Tryd.f46 (.agg (ac (r12_AskF a0))) []) := by
  refine Tr_tree (kok _ _ _ _ _ _) (E := E_r12_Ask) (L := noLoops) 60 9999 LoopsOk.none (r12_AskR a0) (by kernel_rfl) (by kernel_rfl) (by kernel_rfl) ?_
  unfold r12_AskR
  exact ⟨trivial, .inl (by kernel_rfl), by kernel_rfl⟩
noncomputable def r12_Ask_fact : Fact Tryd.prog := factOf 46 Tryd.f46 (by kernel_rfl) rfl (by kernel_rfl) [.st .call] [] true (fun t u => .agg (ac (r12_AskF t.1))) (fun t u => []) (fun t u => [])
  (fun _ _ _ => rfl) (fun t u => by kernel_rfl) (fun t u => by kernel_rfl) (fun t u h => r12_AskF_tr t.1 )
noncomputable def E_r12_Best : Env := envOf (P := Tryd.prog) [r12_Uniq_fact, r12_Get_fact] [] [] ckf
def r12_BestLF (a0 : List XObj) (a1 : XObj) : List XObj → Bool → XObj → Bool × XObj
  | [], v1, v7 => (v1, v7)
  | o :: r, v1, v7 => cond (cond (cond (cond (cond (cond (cond (!((o.kind) == (4 : Int))) true (!((o.phase) == (4 : Int)))) true (o.deleting)) true (!(decide ((o.cls) = a1.cls)))) true (!((o.mode) == a1.mode))) true (decide ((o.got) < a1.size))) true (cond (cond ((r12_GetF (r12_UniqF a0) (2 : Int) a1.node).2) (!(decide (a1.node = (⟨#[]⟩ : ByteArray)))) false) (!(decide ((o.zone) = (((r12_GetF (r12_UniqF a0) (2 : Int) a1.node).1).zone)))) false))
    (r12_BestLF a0 a1 r v1 v7)
    (cond (cond (cond (!v1) true (decide ((o.got) < v7.got))) true (cond ((o.got) == v7.got) (strLess (o.name) v7.name) false))
      (r12_BestLF a0 a1 r true o)
      (r12_BestLF a0 a1 r v1 v7))
def r12_BestLS (a0 : List XObj) (a1 : XObj) (v1 : Bool) (i : Nat) (v7 : XObj) : St :=
  ⟨slots 107 [(3, .ptr 0 0), (4, .ptr 1 0), (6, .vec 2), (7, .ptr 3 0), (8, .bool (cond ((r12_GetF (r12_UniqF a0) (2 : Int) a1.node).2) (!(decide (a1.node = (⟨#[]⟩ : ByteArray)))) false)), (9, .ptr 4 0), (10, .bool v1), (11, .int .i64 (i : Int))], [.cells 31 (oc a1), .cells 31 [.int .u8 0, .str (⟨#[]⟩ : ByteArray), .int .u64 0, .int .u64 0, .bool false, .bool false, .str (⟨#[]⟩ : ByteArray), .int .i64 0, .int .i64 0, .int .u8 0, .bool false, .bool false, .str (⟨#[]⟩ : ByteArray), .str (⟨#[]⟩ : ByteArray), .str (⟨#[]⟩ : ByteArray), .str (⟨#[]⟩ : ByteArray), .str (⟨#[]⟩ : ByteArray), .int .u8 0, .int .u64 0, .int .u64 0], .vec true ⟨.obj, r12_UniqF a0⟩, .cells 31 (oc ((r12_GetF (r12_UniqF a0) (2 : Int) a1.node).1)), .cells 31 (oc v7)]⟩
def r12_BestLR (a0 : List XObj) (a1 : XObj) (v1 : Bool) (i : Nat) (v7 : XObj) : RT :=
  (.ask (decide ((i : Int) < ((r12_UniqF a0).length : Int)))
    (.need [0 ≤ (i : Int) ∧ (i : Int) < ((r12_UniqF a0).length : Int)]
      (.ask (cond (cond (cond (cond (cond (cond (!((((r12_UniqF a0).getD i default).kind) == (4 : Int))) true (!((((r12_UniqF a0).getD i default).phase) == (4 : Int)))) true (((r12_UniqF a0).getD i default).deleting)) true (!(decide ((((r12_UniqF a0).getD i default).cls) = a1.cls)))) true (!((((r12_UniqF a0).getD i default).mode) == a1.mode))) true (decide ((((r12_UniqF a0).getD i default).got) < a1.size))) true (cond (cond ((r12_GetF (r12_UniqF a0) (2 : Int) a1.node).2) (!(decide (a1.node = (⟨#[]⟩ : ByteArray)))) false) (!(decide ((((r12_UniqF a0).getD i default).zone) = (((r12_GetF (r12_UniqF a0) (2 : Int) a1.node).1).zone)))) false))
        (.leaf .normal ⟨slots 107 [(3, .ptr 0 0), (4, .ptr 1 0), (6, .vec 2), (7, .ptr 3 0), (8, .bool (cond ((r12_GetF (r12_UniqF a0) (2 : Int) a1.node).2) (!(decide (a1.node = (⟨#[]⟩ : ByteArray)))) false)), (9, .ptr 4 0), (10, .bool v1), (11, .int .i64 (IntKind.i64.wrap ((i : Int) + (1 : Int))))], [.cells 31 (oc a1), .cells 31 [.int .u8 0, .str (⟨#[]⟩ : ByteArray), .int .u64 0, .int .u64 0, .bool false, .bool false, .str (⟨#[]⟩ : ByteArray), .int .i64 0, .int .i64 0, .int .u8 0, .bool false, .bool false, .str (⟨#[]⟩ : ByteArray), .str (⟨#[]⟩ : ByteArray), .str (⟨#[]⟩ : ByteArray), .str (⟨#[]⟩ : ByteArray), .str (⟨#[]⟩ : ByteArray), .int .u8 0, .int .u64 0, .int .u64 0], .vec true ⟨.obj, r12_UniqF a0⟩, .cells 31 (oc ((r12_GetF (r12_UniqF a0) (2 : Int) a1.node).1)), .cells 31 (oc v7)]⟩ [])
        (.ask (cond (cond (!v1) true (decide ((((r12_UniqF a0).getD i default).got) < v7.got))) true (cond ((((r12_UniqF a0).getD i default).got) == v7.got) (strLess (((r12_UniqF a0).getD i default).name) v7.name) false))
          (.leaf .normal ⟨slots 107 [(3, .ptr 0 0), (4, .ptr 1 0), (6, .vec 2), (7, .ptr 3 0), (8, .bool (cond ((r12_GetF (r12_UniqF a0) (2 : Int) a1.node).2) (!(decide (a1.node = (⟨#[]⟩ : ByteArray)))) false)), (9, .ptr 4 0), (10, .bool true), (11, .int .i64 (IntKind.i64.wrap ((i : Int) + (1 : Int))))], [.cells 31 (oc a1), .cells 31 [.int .u8 0, .str (⟨#[]⟩ : ByteArray), .int .u64 0, .int .u64 0, .bool false, .bool false, .str (⟨#[]⟩ : ByteArray), .int .i64 0, .int .i64 0, .int .u8 0, .bool false, .bool false, .str (⟨#[]⟩ : ByteArray), .str (⟨#[]⟩ : ByteArray), .str (⟨#[]⟩ : ByteArray), .str (⟨#[]⟩ : ByteArray), .str (⟨#[]⟩ : ByteArray), .int .u8 0, .int .u64 0, .int .u64 0], .vec true ⟨.obj, r12_UniqF a0⟩, .cells 31 (oc ((r12_GetF (r12_UniqF a0) (2 : Int) a1.node).1)), .cells 31 (oc ((r12_UniqF a0).getD i default))]⟩ [])
          (.leaf .normal ⟨slots 107 [(3, .ptr 0 0), (4, .ptr 1 0), (6, .vec 2), (7, .ptr 3 0), (8, .bool (cond ((r12_GetF (r12_UniqF a0) (2 : Int) a1.node).2) (!(decide (a1.node = (⟨#[]⟩ : ByteArray)))) false)), (9, .ptr 4 0), (10, .bool v1), (11, .int .i64 (IntKind.i64.wrap ((i : Int) + (1 : Int))))], [.cells 31 (oc a1), .cells 31 [.int .u8 0, .str (⟨#[]⟩ : ByteArray), .int .u64 0, .int .u64 0, .bool false, .bool false, .str (⟨#[]⟩ : ByteArray), .int .i64 0, .int .i64 0, .int .u8 0, .bool false, .bool false, .str (⟨#[]⟩ : ByteArray), .str (⟨#[]⟩ : ByteArray), .str (⟨#[]⟩ : ByteArray), .str (⟨#[]⟩ : ByteArray), .str (⟨#[]⟩ : ByteArray), .int .u8 0, .int .u64 0, .int .u64 0], .vec true ⟨.obj, r12_UniqF a0⟩, .cells 31 (oc ((r12_GetF (r12_UniqF a0) (2 : Int) a1.node).1)), .cells 31 (oc v7)]⟩ []))))
    (.leaf (.exit 0) ⟨slots 107 [(4, .ptr 0 0), (9, .ptr 1 0), (10, .bool v1)], [.cells 31 [.int .u8 0, .str (⟨#[]⟩ : ByteArray), .int .u64 0, .int .u64 0, .bool false, .bool false, .str (⟨#[]⟩ : ByteArray), .int .i64 0, .int .i64 0, .int .u8 0, .bool false, .bool false, .str (⟨#[]⟩ : ByteArray), .str (⟨#[]⟩ : ByteArray), .str (⟨#[]⟩ : ByteArray), .str (⟨#[]⟩ : ByteArray), .str (⟨#[]⟩ : ByteArray), .int .u8 0, .int .u64 0, .int .u64 0], .cells 31 (oc v7)]⟩ [1, 4]))
def r12_BestLT (a0 : List XObj) (a1 : XObj) (v1 : Bool) (i : Nat) (v7 : XObj) : Tree :=
  .leaf (.exit 0) ⟨slots 107 [(4, .ptr 0 0), (9, .ptr 1 0), (10, .bool ((r12_BestLF a0 a1 ((r12_UniqF a0).drop i) v1 v7).1))], [.cells 31 [.int .u8 0, .str (⟨#[]⟩ : ByteArray), .int .u64 0, .int .u64 0, .bool false, .bool false, .str (⟨#[]⟩ : ByteArray), .int .i64 0, .int .i64 0, .int .u8 0, .bool false, .bool false, .str (⟨#[]⟩ : ByteArray), .str (⟨#[]⟩ : ByteArray), .str (⟨#[]⟩ : ByteArray), .str (⟨#[]⟩ : ByteArray), .str (⟨#[]⟩ : ByteArray), .int .u8 0, .int .u64 0, .int .u64 0], .cells 31 (oc ((r12_BestLF a0 a1 ((r12_UniqF a0).drop i) v1 v7).2))]⟩
theorem r12_BestL_loop (a0 : List XObj) (a1 : XObj) (hp0 : a0.length ≤ 64) (hlen : (r12_UniqF a0).length < 4611686018427387904) (z : { z : Bool × Nat × XObj // z.2.1 ≤ (r12_UniqF a0).length }) (Q : Exit → St → Prop) (h : (r12_BestLT a0 a1 z.1.1 z.1.2.1 z.1.2.2).All Q) : Tr Tryd.prog 0 (.loop (loopAt Tryd.f16 0)) (r12_BestLS a0 a1 z.1.1 z.1.2.1 z.1.2.2) Q := by
  refine Tr_loopT (kok _ _ _ _ _ _) (E := E_r12_Best) (ι := { z : Bool × Nat × XObj // z.2.1 ≤ (r12_UniqF a0).length }) 60 0 (fun _ => noLoops) (fun z => r12_BestLS a0 a1 z.1.1 z.1.2.1 z.1.2.2) (fun z => r12_BestLT a0 a1 z.1.1 z.1.2.1 z.1.2.2) (fun z => r12_BestLR a0 a1 z.1.1 z.1.2.1 z.1.2.2) (fun z => (r12_UniqF a0).length - z.1.2.1) (fun _ => LoopsOk.none) (fun z => by obtain ⟨⟨v1, i, v7⟩, hi⟩ := z; kernel_rfl) (fun z => by obtain ⟨⟨v1, i, v7⟩, hi⟩ := z; kernel_rfl) (fun z => by obtain ⟨⟨v1, i, v7⟩, hi⟩ := z; kernel_rfl) ?_ z Q h
  rintro ⟨⟨v1, i, v7⟩, hi⟩ Q hT
  replace hT : (r12_BestLT a0 a1 v1 i v7).All Q := hT
  replace hi : i ≤ (r12_UniqF a0).length := hi
  show (r12_BestLR a0 a1 v1 i v7).All _
  unfold r12_BestLR
  refine ⟨fun h0 => ?_, fun h0 => ?_⟩
  · have hlt : i < (r12_UniqF a0).length := by simpa using h0
    have hd := drop_getD hlt
    have hw := wrap_succ (i := i) (by omega)
    refine ⟨need_cons (by first | assumption | omega | (intro; omega) | (simp only [decide_eq_true_eq, decide_eq_false_iff_not, Bool.cond_false_right, Bool.cond_true_right, Bool.cond_true_left, Bool.cond_false_left, Bool.and_eq_true, Bool.or_eq_true, Bool.not_eq_true', bytesLim, maxLen, List.length_cons, List.length_nil, List.length_append, byteSize_lit] at *; omega) | (intro; simp only [decide_eq_true_eq, decide_eq_false_iff_not, Bool.cond_false_right, Bool.cond_true_right, Bool.cond_true_left, Bool.cond_false_left, Bool.and_eq_true, Bool.or_eq_true, Bool.not_eq_true', bytesLim, maxLen, List.length_cons, List.length_nil, List.length_append, byteSize_lit] at *; omega)) (need_nil), ?_⟩
    refine ⟨fun h1 => ?_, fun h1 => ?_⟩
    · have hF : r12_BestLF a0 a1 ((r12_UniqF a0).drop i) v1 v7 = r12_BestLF a0 a1 ((r12_UniqF a0).drop (i + 1)) v1 v7 := by rw [hd]; first | exact (cond_t h1 rfl) | simp only [r12_BestLF, h0, h1, cond_true, cond_false]
      refine ⟨⟨(v1, (i + 1), v7), by show (i + 1) ≤ (r12_UniqF a0).length; omega⟩, by show (r12_UniqF a0).length - (i + 1) < (r12_UniqF a0).length - i; omega, ?_, ?_⟩
      · show _ = r12_BestLS a0 a1 v1 (i + 1) v7
        unfold r12_BestLS
        simp only [hw]
      · show (r12_BestLT a0 a1 v1 (i + 1) v7).All Q
        unfold r12_BestLT at hT ⊢
        rw [hF] at hT
        exact hT
    · refine ⟨fun h2 => ?_, fun h2 => ?_⟩
      · have hF : r12_BestLF a0 a1 ((r12_UniqF a0).drop i) v1 v7 = r12_BestLF a0 a1 ((r12_UniqF a0).drop (i + 1)) true ((r12_UniqF a0).getD i default) := by rw [hd]; first | exact (cond_f h1 (cond_t h2 rfl)) | simp only [r12_BestLF, h0, h1, h2, cond_true, cond_false]
        refine ⟨⟨(true, (i + 1), ((r12_UniqF a0).getD i default)), by show (i + 1) ≤ (r12_UniqF a0).length; omega⟩, by show (r12_UniqF a0).length - (i + 1) < (r12_UniqF a0).length - i; omega, ?_, ?_⟩
        · show _ = r12_BestLS a0 a1 true (i + 1) ((r12_UniqF a0).getD i default)
          unfold r12_BestLS
          simp only [hw]
        · show (r12_BestLT a0 a1 true (i + 1) ((r12_UniqF a0).getD i default)).All Q
          unfold r12_BestLT at hT ⊢
          rw [hF] at hT
          exact hT
      · have hF : r12_BestLF a0 a1 ((r12_UniqF a0).drop i) v1 v7 = r12_BestLF a0 a1 ((r12_UniqF a0).drop (i + 1)) v1 v7 := by rw [hd]; first | exact (cond_f h1 (cond_f h2 rfl)) | simp only [r12_BestLF, h0, h1, h2, cond_true, cond_false]
        refine ⟨⟨(v1, (i + 1), v7), by show (i + 1) ≤ (r12_UniqF a0).length; omega⟩, by show (r12_UniqF a0).length - (i + 1) < (r12_UniqF a0).length - i; omega, ?_, ?_⟩
        · show _ = r12_BestLS a0 a1 v1 (i + 1) v7
          unfold r12_BestLS
          simp only [hw]
        · show (r12_BestLT a0 a1 v1 (i + 1) v7).All Q
          unfold r12_BestLT at hT ⊢
          rw [hF] at hT
          exact hT
  · have hge : ¬ i < (r12_UniqF a0).length := by simpa using h0
    have hd : (r12_UniqF a0).drop i = [] := List.drop_eq_nil_of_le (by omega)
    have hF : r12_BestLF a0 a1 ((r12_UniqF a0).drop i) v1 v7 = (v1, v7) := by rw [hd]; first | exact rfl | simp only [r12_BestLF, h0, cond_true, cond_false]
    unfold r12_BestLT at hT
    rw [hF] at hT
    exact hT
def r12_BestF (a0 : List XObj) (a1 : XObj) : XObj × Bool :=
  (((r12_BestLF a0 a1 (r12_UniqF a0) false (default : XObj)).2), (r12_BestLF a0 a1 (r12_UniqF a0) false (default : XObj)).1)
def r12_BestR (a0 : List XObj) (a1 : XObj) : RT :=
  (.need [a0.length ≤ 64]
    (.need [(r12_UniqF a0).length < 4611686018427387904]
      (.leaf .ret ⟨slots 107 [(4, .ptr 0 0), (5, .bool ((r12_BestLF a0 a1 (r12_UniqF a0) false (default : XObj)).1))], [.cells 31 (oc ((r12_BestLF a0 a1 (r12_UniqF a0) false (default : XObj)).2))]⟩ [])))
theorem r12_BestF_tr (a0 : List XObj) (a1 : XObj) (hp0 : a0.length ≤ 64) : Tr Tryd.prog 0 (bodyOf Tryd.f16) (fnBegins Tryd.f16 [.coll ⟨.obj, a0⟩, .agg (oc a1)] []) (fnEnds Tryd.prog Tryd.f16 (.tup [.agg (oc ((r12_BestF a0 a1).1)), .bool ((r12_BestF a0 a1).2)]) []) := by
  refine Tr_tree (kok _ _ _ _ _ _) (E := E_r12_Best) (L := (loopsOf [(0, r12_BestLS a0 a1 false 0 (default : XObj), [], r12_BestLT a0 a1 false 0 (default : XObj))])) 60 9999 (LoopsOk.one (g := loopAt Tryd.f16 0) (b := 0) (by kernel_rfl) (by kernel_rfl) (by kernel_rfl) (by kernel_rfl) (fun Q h => r12_BestL_loop a0 a1 hp0 (by first | assumption | omega | exact of_short _ (by first | assumption | omega | exact Nat.le_trans (w12_few_len _) (by decide)) | exact r12_Uniq_short _ (by first | assumption | omega | exact Nat.le_trans (w12_few_len _) (by decide)) | exact Nat.lt_of_le_of_lt (w12_few_len _) (by decide) | decide | (simp only [List.length_append, List.length_cons, List.length_nil]; have := w12_few_len a0; omega)) ⟨(false, 0, (default : XObj)), Nat.zero_le _⟩ Q h)) (r12_BestR a0 a1) (by kernel_rfl) (by kernel_rfl) (by kernel_rfl) ?_
  unfold r12_BestR
  refine ⟨need_cons (by (try refine fun (_ : _ = _) => ?_); first | assumption | omega | exact of_len _ (by first | assumption | omega | exact Nat.le_trans (w12_few_len _) (by decide)) | exact r12_Uniq_len _ (by first | assumption | omega | exact Nat.le_trans (w12_few_len _) (by decide)) | exact Nat.le_trans (w12_few_len _) (by decide) | decide | (simp only [List.length_append, List.length_cons, List.length_nil]; have := w12_few_len a0; omega)) (need_nil), ?_⟩
  refine ⟨need_cons (by (try refine fun (_ : _ = _) => ?_); first | assumption | omega | exact of_short _ (by first | assumption | omega | exact Nat.le_trans (w12_few_len _) (by decide)) | exact r12_Uniq_short _ (by first | assumption | omega | exact Nat.le_trans (w12_few_len _) (by decide)) | exact Nat.lt_of_le_of_lt (w12_few_len _) (by decide) | decide | (simp only [List.length_append, List.length_cons, List.length_nil]; have := w12_few_len a0; omega)) (need_nil), ?_⟩
  exact ⟨trivial, .inl (by kernel_rfl), by kernel_rfl⟩
noncomputable def r12_Best_fact : Fact Tryd.prog := factOf 16 Tryd.f16 (by kernel_rfl) rfl (by kernel_rfl) [.c (.coll .obj), .st .obj] [] true (fun t u => .tup [.agg (oc ((r12_BestF t.1 t.2.1).1)), .bool ((r12_BestF t.1 t.2.1).2)]) (fun t u => []) (fun t u => [t.1.length ≤ 64])
  (fun _ _ _ => rfl) (fun t u => by kernel_rfl) (fun t u => by kernel_rfl) (fun t u h => r12_BestF_tr t.1 t.2.1 (h _ List.mem_cons_self))
noncomputable def E_r12_pending : Env := envOf (P := Tryd.prog) [r12_Best_fact, r12_Ref_fact, r12_Write_fact, r12_Get_fact] [] [] ckf
def r12_pendingF (a0 : List XObj) (a1 : Int) (a2 : XObj) : XAct :=
  cond ((r12_BestF a0 a2).2)
    (r12_WriteF ({ ((r12_BestF a0 a2).1) with claim := r12_RefF a2, phase := (3 : Int) } : XObj))
    (cond (cond (!((r12_GetF a0 (1 : Int) a2.cls).2)) true (cond (((r12_GetF a0 (1 : Int) a2.cls).1).wait) (!(cond ((r12_GetF a0 (2 : Int) a2.node).2) (!(decide (a2.node = (⟨#[]⟩ : ByteArray)))) false)) false))
      (default : XAct)
      (cond (cond ((r12_GetF a0 (2 : Int) a2.node).2) (!(decide (a2.node = (⟨#[]⟩ : ByteArray)))) false)
        (cond (decide ((((r12_GetF a0 (2 : Int) a2.node).1).zone) = (⟨#[]⟩ : ByteArray)))
          (default : XAct)
          (cond (!(decide (a2.source = (⟨#[]⟩ : ByteArray))))
            (cond (cond (cond (cond (!((r12_GetF a0 (7 : Int) a2.source).2)) true (!((((r12_GetF a0 (7 : Int) a2.source).1).phase) == (11 : Int)))) true (((r12_GetF a0 (7 : Int) a2.source).1).deleting)) true (decide ((((r12_GetF a0 (7 : Int) a2.source).1).got) > a2.size)))
              (default : XAct)
              (r12_WriteF ({ a2 with zone := ((r12_GetF a0 (2 : Int) a2.node).1).zone, phase := (2 : Int), num := (IntKind.u64.wrap (a1 + (1 : Int))) } : XObj)))
            (r12_WriteF ({ a2 with zone := ((r12_GetF a0 (2 : Int) a2.node).1).zone, phase := (2 : Int), num := (IntKind.u64.wrap (a1 + (1 : Int))) } : XObj))))
        (cond (decide ((((r12_GetF a0 (1 : Int) a2.cls).1).zone) = (⟨#[]⟩ : ByteArray)))
          (default : XAct)
          (cond (!(decide (a2.source = (⟨#[]⟩ : ByteArray))))
            (cond (cond (cond (cond (!((r12_GetF a0 (7 : Int) a2.source).2)) true (!((((r12_GetF a0 (7 : Int) a2.source).1).phase) == (11 : Int)))) true (((r12_GetF a0 (7 : Int) a2.source).1).deleting)) true (decide ((((r12_GetF a0 (7 : Int) a2.source).1).got) > a2.size)))
              (default : XAct)
              (r12_WriteF ({ a2 with zone := ((r12_GetF a0 (1 : Int) a2.cls).1).zone, phase := (2 : Int), num := (IntKind.u64.wrap (a1 + (1 : Int))) } : XObj)))
            (r12_WriteF ({ a2 with zone := ((r12_GetF a0 (1 : Int) a2.cls).1).zone, phase := (2 : Int), num := (IntKind.u64.wrap (a1 + (1 : Int))) } : XObj))))))
def r12_pendingR (a0 : List XObj) (a1 : Int) (a2 : XObj) : RT :=
  (.need [a0.length ≤ 64]
    (.ask ((r12_BestF a0 a2).2)
      (.need [a2.Fine]
        (.leaf .ret ⟨slots 105 [(6, .ptr 0 0)], [.cells 36 (ac (r12_WriteF ({ ((r12_BestF a0 a2).1) with claim := r12_RefF a2, phase := (3 : Int) } : XObj)))]⟩ [1]))
      (.need [a0.length < 4611686018427387904]
        (.need [a0.length < 4611686018427387904]
          (.ask (cond (!((r12_GetF a0 (1 : Int) a2.cls).2)) true (cond (((r12_GetF a0 (1 : Int) a2.cls).1).wait) (!(cond ((r12_GetF a0 (2 : Int) a2.node).2) (!(decide (a2.node = (⟨#[]⟩ : ByteArray)))) false)) false))
            (.leaf .ret ⟨slots 105 [(6, .ptr 0 0)], [.cells 36 [.int .u8 0, .int .u8 0, .str (⟨#[]⟩ : ByteArray), .int .u64 0, .int .u64 0, .bool false, .bool false, .str (⟨#[]⟩ : ByteArray), .int .i64 0, .int .i64 0, .int .u8 0, .bool false, .bool false, .str (⟨#[]⟩ : ByteArray), .str (⟨#[]⟩ : ByteArray), .str (⟨#[]⟩ : ByteArray), .str (⟨#[]⟩ : ByteArray), .str (⟨#[]⟩ : ByteArray), .int .u8 0, .int .u64 0, .int .u64 0, .int .u8 0, .str (⟨#[]⟩ : ByteArray), .int .u64 0, .int .i64 0, .str (⟨#[]⟩ : ByteArray), .str (⟨#[]⟩ : ByteArray), .str (⟨#[]⟩ : ByteArray)]]⟩ [1])
            (.ask (cond ((r12_GetF a0 (2 : Int) a2.node).2) (!(decide (a2.node = (⟨#[]⟩ : ByteArray)))) false)
              (.ask (decide ((((r12_GetF a0 (2 : Int) a2.node).1).zone) = (⟨#[]⟩ : ByteArray)))
                (.leaf .ret ⟨slots 105 [(6, .ptr 0 0)], [.cells 36 [.int .u8 0, .int .u8 0, .str (⟨#[]⟩ : ByteArray), .int .u64 0, .int .u64 0, .bool false, .bool false, .str (⟨#[]⟩ : ByteArray), .int .i64 0, .int .i64 0, .int .u8 0, .bool false, .bool false, .str (⟨#[]⟩ : ByteArray), .str (⟨#[]⟩ : ByteArray), .str (⟨#[]⟩ : ByteArray), .str (⟨#[]⟩ : ByteArray), .str (⟨#[]⟩ : ByteArray), .int .u8 0, .int .u64 0, .int .u64 0, .int .u8 0, .str (⟨#[]⟩ : ByteArray), .int .u64 0, .int .i64 0, .str (⟨#[]⟩ : ByteArray), .str (⟨#[]⟩ : ByteArray), .str (⟨#[]⟩ : ByteArray)]]⟩ [1])
                (.ask (!(decide (a2.source = (⟨#[]⟩ : ByteArray))))
                  (.need [a0.length < 4611686018427387904]
                    (.ask (cond (cond (cond (!((r12_GetF a0 (7 : Int) a2.source).2)) true (!((((r12_GetF a0 (7 : Int) a2.source).1).phase) == (11 : Int)))) true (((r12_GetF a0 (7 : Int) a2.source).1).deleting)) true (decide ((((r12_GetF a0 (7 : Int) a2.source).1).got) > a2.size)))
                      (.leaf .ret ⟨slots 105 [(6, .ptr 0 0)], [.cells 36 [.int .u8 0, .int .u8 0, .str (⟨#[]⟩ : ByteArray), .int .u64 0, .int .u64 0, .bool false, .bool false, .str (⟨#[]⟩ : ByteArray), .int .i64 0, .int .i64 0, .int .u8 0, .bool false, .bool false, .str (⟨#[]⟩ : ByteArray), .str (⟨#[]⟩ : ByteArray), .str (⟨#[]⟩ : ByteArray), .str (⟨#[]⟩ : ByteArray), .str (⟨#[]⟩ : ByteArray), .int .u8 0, .int .u64 0, .int .u64 0, .int .u8 0, .str (⟨#[]⟩ : ByteArray), .int .u64 0, .int .i64 0, .str (⟨#[]⟩ : ByteArray), .str (⟨#[]⟩ : ByteArray), .str (⟨#[]⟩ : ByteArray)]]⟩ [1])
                      (.leaf .ret ⟨slots 105 [(6, .ptr 0 0)], [.cells 36 (ac (r12_WriteF ({ a2 with zone := ((r12_GetF a0 (2 : Int) a2.node).1).zone, phase := (2 : Int), num := (IntKind.u64.wrap (a1 + (1 : Int))) } : XObj)))]⟩ [1])))
                  (.leaf .ret ⟨slots 105 [(6, .ptr 0 0)], [.cells 36 (ac (r12_WriteF ({ a2 with zone := ((r12_GetF a0 (2 : Int) a2.node).1).zone, phase := (2 : Int), num := (IntKind.u64.wrap (a1 + (1 : Int))) } : XObj)))]⟩ [1])))
              (.ask (decide ((((r12_GetF a0 (1 : Int) a2.cls).1).zone) = (⟨#[]⟩ : ByteArray)))
                (.leaf .ret ⟨slots 105 [(6, .ptr 0 0)], [.cells 36 [.int .u8 0, .int .u8 0, .str (⟨#[]⟩ : ByteArray), .int .u64 0, .int .u64 0, .bool false, .bool false, .str (⟨#[]⟩ : ByteArray), .int .i64 0, .int .i64 0, .int .u8 0, .bool false, .bool false, .str (⟨#[]⟩ : ByteArray), .str (⟨#[]⟩ : ByteArray), .str (⟨#[]⟩ : ByteArray), .str (⟨#[]⟩ : ByteArray), .str (⟨#[]⟩ : ByteArray), .int .u8 0, .int .u64 0, .int .u64 0, .int .u8 0, .str (⟨#[]⟩ : ByteArray), .int .u64 0, .int .i64 0, .str (⟨#[]⟩ : ByteArray), .str (⟨#[]⟩ : ByteArray), .str (⟨#[]⟩ : ByteArray)]]⟩ [1])
                (.ask (!(decide (a2.source = (⟨#[]⟩ : ByteArray))))
                  (.need [a0.length < 4611686018427387904]
                    (.ask (cond (cond (cond (!((r12_GetF a0 (7 : Int) a2.source).2)) true (!((((r12_GetF a0 (7 : Int) a2.source).1).phase) == (11 : Int)))) true (((r12_GetF a0 (7 : Int) a2.source).1).deleting)) true (decide ((((r12_GetF a0 (7 : Int) a2.source).1).got) > a2.size)))
                      (.leaf .ret ⟨slots 105 [(6, .ptr 0 0)], [.cells 36 [.int .u8 0, .int .u8 0, .str (⟨#[]⟩ : ByteArray), .int .u64 0, .int .u64 0, .bool false, .bool false, .str (⟨#[]⟩ : ByteArray), .int .i64 0, .int .i64 0, .int .u8 0, .bool false, .bool false, .str (⟨#[]⟩ : ByteArray), .str (⟨#[]⟩ : ByteArray), .str (⟨#[]⟩ : ByteArray), .str (⟨#[]⟩ : ByteArray), .str (⟨#[]⟩ : ByteArray), .int .u8 0, .int .u64 0, .int .u64 0, .int .u8 0, .str (⟨#[]⟩ : ByteArray), .int .u64 0, .int .i64 0, .str (⟨#[]⟩ : ByteArray), .str (⟨#[]⟩ : ByteArray), .str (⟨#[]⟩ : ByteArray)]]⟩ [1])
                      (.leaf .ret ⟨slots 105 [(6, .ptr 0 0)], [.cells 36 (ac (r12_WriteF ({ a2 with zone := ((r12_GetF a0 (1 : Int) a2.cls).1).zone, phase := (2 : Int), num := (IntKind.u64.wrap (a1 + (1 : Int))) } : XObj)))]⟩ [1])))
                  (.leaf .ret ⟨slots 105 [(6, .ptr 0 0)], [.cells 36 (ac (r12_WriteF ({ a2 with zone := ((r12_GetF a0 (1 : Int) a2.cls).1).zone, phase := (2 : Int), num := (IntKind.u64.wrap (a1 + (1 : Int))) } : XObj)))]⟩ [1])))))))))
theorem r12_pendingF_tr (a0 : List XObj) (a1 : Int) (a2 : XObj) (hp0 : a0.length ≤ 64) (hp1 : ∀ o ∈ a0, o.Fine) (hp2 : a2.Fine) : Tr Tryd.prog 0 (bodyOf Tryd.f48) (fnBegins Tryd.f48 [.coll ⟨.obj, a0⟩, .int .u64 a1, .agg (oc a2)] []) (fnEnds Tryd.prog Tryd.f48 (.agg (ac (r12_pendingF a0 a1 a2))) []) := by
  refine Tr_tree (kok _ _ _ _ _ _) (E := E_r12_pending) (L := noLoops) 60 9999 LoopsOk.none (r12_pendingR a0 a1 a2) (by kernel_rfl) (by kernel_rfl) (by kernel_rfl) ?_
  unfold r12_pendingR
  refine ⟨need_cons (by (try refine fun (_ : _ = _) => ?_); first | assumption | omega | exact of_len _ (by first | assumption | omega | exact Nat.le_trans (w12_few_len _) (by decide)) | exact r12_Uniq_len _ (by first | assumption | omega | exact Nat.le_trans (w12_few_len _) (by decide)) | exact Nat.le_trans (w12_few_len _) (by decide) | decide | (simp only [List.length_append, List.length_cons, List.length_nil]; have := w12_few_len a0; omega)) (need_nil), ?_⟩
  refine ⟨fun h0 => ?_, fun h0 => ?_⟩
  · refine ⟨need_cons (by (try refine fun (_ : _ = _) => ?_); first | assumption | exact get_fine _ _ _ (by first | assumption | exact of_fine _ (by first | assumption | exact w12_few_fine (by assumption)) | exact r12_Uniq_fine _ (by first | assumption | exact w12_few_fine (by assumption)) | exact w12_few_fine (by assumption)) | exact r12_Get_fine _ _ _ (by first | assumption | exact of_fine _ (by first | assumption | exact w12_few_fine (by assumption)) | exact r12_Uniq_fine _ (by first | assumption | exact w12_few_fine (by assumption)) | exact w12_few_fine (by assumption)) | exact fine_default | exact hp1 _ (gD_mem (by assumption)) | exact r12_Uniq_fine _ (by assumption) _ (gD_mem (by assumption)) | exact of_fine _ (by assumption) _ (gD_mem (by assumption)) | exact w12_few_fine (by assumption) _ (gD_mem (by assumption)) | exact hp1 | exact hp0 | (refine ⟨?_, ?_, ?_, ?_, ?_, ?_, ?_, ?_, ?_⟩ <;> first | assumption | decide | (simp only [size_mk]; decide))) (need_nil), ?_⟩
    have hF : r12_pendingF a0 a1 a2 = (r12_WriteF ({ ((r12_BestF a0 a2).1) with claim := r12_RefF a2, phase := (3 : Int) } : XObj)) := by first | exact (cond_t h0 rfl) | simp only [r12_pendingF, h0, cond_true, cond_false]
    exact ⟨trivial, .inl (by first | (rw [hF]; kernel_rfl) | kernel_rfl), by first | (rw [hF]; kernel_rfl) | kernel_rfl⟩
  · refine ⟨need_cons (by (try refine fun (_ : _ = _) => ?_); first | assumption | omega | exact of_short _ (by first | assumption | omega | exact Nat.le_trans (w12_few_len _) (by decide)) | exact r12_Uniq_short _ (by first | assumption | omega | exact Nat.le_trans (w12_few_len _) (by decide)) | exact Nat.lt_of_le_of_lt (w12_few_len _) (by decide) | decide | (simp only [List.length_append, List.length_cons, List.length_nil]; have := w12_few_len a0; omega)) (need_nil), ?_⟩
    refine ⟨need_cons (by (try refine fun (_ : _ = _) => ?_); first | assumption | omega | exact of_short _ (by first | assumption | omega | exact Nat.le_trans (w12_few_len _) (by decide)) | exact r12_Uniq_short _ (by first | assumption | omega | exact Nat.le_trans (w12_few_len _) (by decide)) | exact Nat.lt_of_le_of_lt (w12_few_len _) (by decide) | decide | (simp only [List.length_append, List.length_cons, List.length_nil]; have := w12_few_len a0; omega)) (need_nil), ?_⟩
    refine ⟨fun h1 => ?_, fun h1 => ?_⟩
    · have hF : r12_pendingF a0 a1 a2 = (default : XAct) := by first | exact (cond_f h0 (cond_t h1 rfl)) | simp only [r12_pendingF, h0, h1, cond_true, cond_false]
      exact ⟨trivial, .inl (by first | (rw [hF]; kernel_rfl) | kernel_rfl), by first | (rw [hF]; kernel_rfl) | kernel_rfl⟩
    · refine ⟨fun h2 => ?_, fun h2 => ?_⟩
      · refine ⟨fun h3 => ?_, fun h3 => ?_⟩
        · have hF : r12_pendingF a0 a1 a2 = (default : XAct) := by first | exact (cond_f h0 (cond_f h1 (cond_t h2 (cond_t h3 rfl)))) | simp only [r12_pendingF, h0, h1, h2, h3, cond_true, cond_false]
          exact ⟨trivial, .inl (by first | (rw [hF]; kernel_rfl) | kernel_rfl), by first | (rw [hF]; kernel_rfl) | kernel_rfl⟩
        · refine ⟨fun h4 => ?_, fun h4 => ?_⟩
          · refine ⟨need_cons (by (try refine fun (_ : _ = _) => ?_); first | assumption | omega | exact of_short _ (by first | assumption | omega | exact Nat.le_trans (w12_few_len _) (by decide)) | exact r12_Uniq_short _ (by first | assumption | omega | exact Nat.le_trans (w12_few_len _) (by decide)) | exact Nat.lt_of_le_of_lt (w12_few_len _) (by decide) | decide | (simp only [List.length_append, List.length_cons, List.length_nil]; have := w12_few_len a0; omega)) (need_nil), ?_⟩
            refine ⟨fun h5 => ?_, fun h5 => ?_⟩
            · have hF : r12_pendingF a0 a1 a2 = (default : XAct) := by first | exact (cond_f h0 (cond_f h1 (cond_t h2 (cond_f h3 (cond_t h4 (cond_t h5 rfl)))))) | simp only [r12_pendingF, h0, h1, h2, h3, h4, h5, cond_true, cond_false]
              exact ⟨trivial, .inl (by first | (rw [hF]; kernel_rfl) | kernel_rfl), by first | (rw [hF]; kernel_rfl) | kernel_rfl⟩
            · have hF : r12_pendingF a0 a1 a2 = (r12_WriteF ({ a2 with zone := ((r12_GetF a0 (2 : Int) a2.node).1).zone, phase := (2 : Int), num := (IntKind.u64.wrap (a1 + (1 : Int))) } : XObj)) := by first | exact (cond_f h0 (cond_f h1 (cond_t h2 (cond_f h3 (cond_t h4 (cond_f h5 rfl)))))) | simp only [r12_pendingF, h0, h1, h2, h3, h4, h5, cond_true, cond_false]
              exact ⟨trivial, .inl (by first | (rw [hF]; kernel_rfl) | kernel_rfl), by first | (rw [hF]; kernel_rfl) | kernel_rfl⟩
          · have hF : r12_pendingF a0 a1 a2 = (r12_WriteF ({ a2 with zone := ((r12_GetF a0 (2 : Int) a2.node).1).zone, phase := (2 : Int), num := (IntKind.u64.wrap (a1 + (1 : Int))) } : XObj)) := by first | exact (cond_f h0 (cond_f h1 (cond_t h2 (cond_f h3 (cond_f h4 rfl))))) | simp only [r12_pendingF, h0, h1, h2, h3, h4, cond_true, cond_false]
            exact ⟨trivial, .inl (by first | (rw [hF]; kernel_rfl) | kernel_rfl), by first | (rw [hF]; kernel_rfl) | kernel_rfl⟩
      · refine ⟨fun h3 => ?_, fun h3 => ?_⟩
        · have hF : r12_pendingF a0 a1 a2 = (default : XAct) := by first | exact (cond_f h0 (cond_f h1 (cond_f h2 (cond_t h3 rfl)))) | simp only [r12_pendingF, h0, h1, h2, h3, cond_true, cond_false]
          exact ⟨trivial, .inl (by first | (rw [hF]; kernel_rfl) | kernel_rfl), by first | (rw [hF]; kernel_rfl) | kernel_rfl⟩
        · refine ⟨fun h4 => ?_, fun h4 => ?_⟩
          · refine ⟨need_cons (by (try refine fun (_ : _ = _) => ?_); first | assumption | omega | exact of_short _ (by first | assumption | omega | exact Nat.le_trans (w12_few_len _) (by decide)) | exact r12_Uniq_short _ (by first | assumption | omega | exact Nat.le_trans (w12_few_len _) (by decide)) | exact Nat.lt_of_le_of_lt (w12_few_len _) (by decide) | decide | (simp only [List.length_append, List.length_cons, List.length_nil]; have := w12_few_len a0; omega)) (need_nil), ?_⟩
            refine ⟨fun h5 => ?_, fun h5 => ?_⟩
            · have hF : r12_pendingF a0 a1 a2 = (default : XAct) := by first | exact (cond_f h0 (cond_f h1 (cond_f h2 (cond_f h3 (cond_t h4 (cond_t h5 rfl)))))) | simp only [r12_pendingF, h0, h1, h2, h3, h4, h5, cond_true, cond_false]
              exact ⟨trivial, .inl (by first | (rw [hF]; kernel_rfl) | kernel_rfl), by first | (rw [hF]; kernel_rfl) | kernel_rfl⟩
            · have hF : r12_pendingF a0 a1 a2 = (r12_WriteF ({ a2 with zone := ((r12_GetF a0 (1 : Int) a2.cls).1).zone, phase := (2 : Int), num := (IntKind.u64.wrap (a1 + (1 : Int))) } : XObj)) := by first | exact (cond_f h0 (cond_f h1 (cond_f h2 (cond_f h3 (cond_t h4 (cond_f h5 rfl)))))) | simp only [r12_pendingF, h0, h1, h2, h3, h4, h5, cond_true, cond_false]
              exact ⟨trivial, .inl (by first | (rw [hF]; kernel_rfl) | kernel_rfl), by first | (rw [hF]; kernel_rfl) | kernel_rfl⟩
          · have hF : r12_pendingF a0 a1 a2 = (r12_WriteF ({ a2 with zone := ((r12_GetF a0 (1 : Int) a2.cls).1).zone, phase := (2 : Int), num := (IntKind.u64.wrap (a1 + (1 : Int))) } : XObj)) := by first | exact (cond_f h0 (cond_f h1 (cond_f h2 (cond_f h3 (cond_f h4 rfl))))) | simp only [r12_pendingF, h0, h1, h2, h3, h4, cond_true, cond_false]
            exact ⟨trivial, .inl (by first | (rw [hF]; kernel_rfl) | kernel_rfl), by first | (rw [hF]; kernel_rfl) | kernel_rfl⟩
noncomputable def r12_pending_fact : Fact Tryd.prog := factOf 48 Tryd.f48 (by kernel_rfl) rfl (by kernel_rfl) [.c (.coll .obj), .c (.int .u64), .st .obj] [] true (fun t u => .agg (ac (r12_pendingF t.1 t.2.1 t.2.2.1))) (fun t u => []) (fun t u => [t.1.length ≤ 64, ∀ o ∈ t.1, o.Fine, t.2.2.1.Fine])
  (fun _ _ _ => rfl) (fun t u => by kernel_rfl) (fun t u => by kernel_rfl) (fun t u h => r12_pendingF_tr t.1 t.2.1 t.2.2.1 (h _ List.mem_cons_self) (h _ (List.mem_cons_of_mem _ List.mem_cons_self)) (h _ (List.mem_cons_of_mem _ (List.mem_cons_of_mem _ List.mem_cons_self))))
noncomputable def E_r12_Claim : Env := envOf (P := Tryd.prog) [r12_Uniq_fact, r12_Get_fact, r12_Handle_fact, r12_used_fact, r12_Remove_fact, r12_volume_fact, r12_Write_fact, r12_Ask_fact, fmtU_fact, r12_pending_fact] [] [] ckf
def r12_ClaimF (a0 : List XObj) (a1 : Int) (a2 : ByteArray) : XAct :=
  cond (cond (!((r12_GetF (r12_UniqF a0) (3 : Int) a2).2)) true (decide ((r12_HandleF ((r12_GetF (r12_UniqF a0) (3 : Int) a2).1)) = (⟨#[]⟩ : ByteArray))))
    (default : XAct)
    (cond ((((r12_GetF (r12_UniqF a0) (3 : Int) a2).1).phase) == (3 : Int))
      (cond (cond (((r12_GetF (r12_UniqF a0) (3 : Int) a2).1).deleting) (!(r12_usedF (r12_UniqF a0) ((r12_GetF (r12_UniqF a0) (3 : Int) a2).1))) false)
        (r12_RemoveF ((r12_GetF (r12_UniqF a0) (3 : Int) a2).1))
        (default : XAct))
      (cond ((r12_volumeF (r12_UniqF a0) ((r12_GetF (r12_UniqF a0) (3 : Int) a2).1)).2)
        (r12_WriteF ({ ((r12_GetF (r12_UniqF a0) (3 : Int) a2).1) with got := (((r12_volumeF (r12_UniqF a0) ((r12_GetF (r12_UniqF a0) (3 : Int) a2).1)).1).got), zone := ((r12_volumeF (r12_UniqF a0) ((r12_GetF (r12_UniqF a0) (3 : Int) a2).1)).1).zone, volume := ((r12_volumeF (r12_UniqF a0) ((r12_GetF (r12_UniqF a0) (3 : Int) a2).1)).1).name, phase := (3 : Int), num := (0 : Int) } : XObj))
        (cond (((r12_GetF (r12_UniqF a0) (3 : Int) a2).1).deleting)
          (cond ((((r12_GetF (r12_UniqF a0) (3 : Int) a2).1).num) == (0 : Int))
            (r12_RemoveF ((r12_GetF (r12_UniqF a0) (3 : Int) a2).1))
            (cond ((((r12_GetF (r12_UniqF a0) (3 : Int) a2).1).phase) == (2 : Int))
              (r12_WriteF ({ ((r12_GetF (r12_UniqF a0) (3 : Int) a2).1) with phase := (1 : Int), num := (IntKind.u64.wrap (a1 + (1 : Int))) } : XObj))
              (r12_AskF (⟨(2 : Int), r12_HandleF ((r12_GetF (r12_UniqF a0) (3 : Int) a2).1), (((r12_GetF (r12_UniqF a0) (3 : Int) a2).1).num), (0 : Int), (⟨#[]⟩ : ByteArray), (⟨#[]⟩ : ByteArray), (⟨#[]⟩ : ByteArray)⟩ : XCall))))
          (cond ((((r12_GetF (r12_UniqF a0) (3 : Int) a2).1).phase) == (2 : Int))
            (cond (!(decide ((((r12_GetF (r12_UniqF a0) (3 : Int) a2).1).source) = (⟨#[]⟩ : ByteArray))))
              (cond (!((r12_GetF (r12_UniqF a0) (7 : Int) (((r12_GetF (r12_UniqF a0) (3 : Int) a2).1).source)).2))
                (default : XAct)
                (r12_AskF (⟨(1 : Int), r12_HandleF ((r12_GetF (r12_UniqF a0) (3 : Int) a2).1), (((r12_GetF (r12_UniqF a0) (3 : Int) a2).1).num), (((r12_GetF (r12_UniqF a0) (3 : Int) a2).1).size), ((r12_GetF (r12_UniqF a0) (3 : Int) a2).1).zone, (⟨#[]⟩ : ByteArray), (((⟨#[115, 110, 97, 112, 47]⟩ : ByteArray) ++ (((r12_GetF (r12_UniqF a0) (7 : Int) (((r12_GetF (r12_UniqF a0) (3 : Int) a2).1).source)).1).name)) ++ (⟨#[35]⟩ : ByteArray)) ++ (fmtU (((r12_GetF (r12_UniqF a0) (7 : Int) (((r12_GetF (r12_UniqF a0) (3 : Int) a2).1).source)).1).born))⟩ : XCall)))
              (r12_AskF (⟨(1 : Int), r12_HandleF ((r12_GetF (r12_UniqF a0) (3 : Int) a2).1), (((r12_GetF (r12_UniqF a0) (3 : Int) a2).1).num), (((r12_GetF (r12_UniqF a0) (3 : Int) a2).1).size), ((r12_GetF (r12_UniqF a0) (3 : Int) a2).1).zone, (⟨#[]⟩ : ByteArray), (⟨#[]⟩ : ByteArray)⟩ : XCall)))
            (cond (!((((r12_GetF (r12_UniqF a0) (3 : Int) a2).1).phase) == (1 : Int)))
              (default : XAct)
              (r12_pendingF (r12_UniqF a0) a1 ((r12_GetF (r12_UniqF a0) (3 : Int) a2).1)))))))
def r12_ClaimR (a0 : List XObj) (a1 : Int) (a2 : ByteArray) : RT :=
  (.need [a0.length ≤ 64]
    (.need [(r12_UniqF a0).length < 4611686018427387904]
      (.need [((!((r12_GetF (r12_UniqF a0) (3 : Int) a2).2)) = false) → (((r12_GetF (r12_UniqF a0) (3 : Int) a2).1).Fine)]
        (.ask (cond (!((r12_GetF (r12_UniqF a0) (3 : Int) a2).2)) true (decide ((r12_HandleF ((r12_GetF (r12_UniqF a0) (3 : Int) a2).1)) = (⟨#[]⟩ : ByteArray))))
          (.leaf .ret ⟨slots 133 [(6, .ptr 0 0)], [.cells 36 [.int .u8 0, .int .u8 0, .str (⟨#[]⟩ : ByteArray), .int .u64 0, .int .u64 0, .bool false, .bool false, .str (⟨#[]⟩ : ByteArray), .int .i64 0, .int .i64 0, .int .u8 0, .bool false, .bool false, .str (⟨#[]⟩ : ByteArray), .str (⟨#[]⟩ : ByteArray), .str (⟨#[]⟩ : ByteArray), .str (⟨#[]⟩ : ByteArray), .str (⟨#[]⟩ : ByteArray), .int .u8 0, .int .u64 0, .int .u64 0, .int .u8 0, .str (⟨#[]⟩ : ByteArray), .int .u64 0, .int .i64 0, .str (⟨#[]⟩ : ByteArray), .str (⟨#[]⟩ : ByteArray), .str (⟨#[]⟩ : ByteArray)]]⟩ [])
          (.ask ((((r12_GetF (r12_UniqF a0) (3 : Int) a2).1).phase) == (3 : Int))
            (.need [((((r12_GetF (r12_UniqF a0) (3 : Int) a2).1).deleting) = true) → ((r12_UniqF a0).length < 4611686018427387904)]
              (.ask (cond (((r12_GetF (r12_UniqF a0) (3 : Int) a2).1).deleting) (!(r12_usedF (r12_UniqF a0) ((r12_GetF (r12_UniqF a0) (3 : Int) a2).1))) false)
                (.leaf .ret ⟨slots 133 [(6, .ptr 0 0)], [.cells 36 (ac (r12_RemoveF ((r12_GetF (r12_UniqF a0) (3 : Int) a2).1)))]⟩ [])
                (.leaf .ret ⟨slots 133 [(6, .ptr 0 0)], [.cells 36 [.int .u8 0, .int .u8 0, .str (⟨#[]⟩ : ByteArray), .int .u64 0, .int .u64 0, .bool false, .bool false, .str (⟨#[]⟩ : ByteArray), .int .i64 0, .int .i64 0, .int .u8 0, .bool false, .bool false, .str (⟨#[]⟩ : ByteArray), .str (⟨#[]⟩ : ByteArray), .str (⟨#[]⟩ : ByteArray), .str (⟨#[]⟩ : ByteArray), .str (⟨#[]⟩ : ByteArray), .int .u8 0, .int .u64 0, .int .u64 0, .int .u8 0, .str (⟨#[]⟩ : ByteArray), .int .u64 0, .int .i64 0, .str (⟨#[]⟩ : ByteArray), .str (⟨#[]⟩ : ByteArray), .str (⟨#[]⟩ : ByteArray)]]⟩ [])))
            (.need [(r12_UniqF a0).length < 4611686018427387904, ((r12_GetF (r12_UniqF a0) (3 : Int) a2).1).Fine]
              (.ask ((r12_volumeF (r12_UniqF a0) ((r12_GetF (r12_UniqF a0) (3 : Int) a2).1)).2)
                (.leaf .ret ⟨slots 133 [(6, .ptr 0 0)], [.cells 36 (ac (r12_WriteF ({ ((r12_GetF (r12_UniqF a0) (3 : Int) a2).1) with got := (((r12_volumeF (r12_UniqF a0) ((r12_GetF (r12_UniqF a0) (3 : Int) a2).1)).1).got), zone := ((r12_volumeF (r12_UniqF a0) ((r12_GetF (r12_UniqF a0) (3 : Int) a2).1)).1).zone, volume := ((r12_volumeF (r12_UniqF a0) ((r12_GetF (r12_UniqF a0) (3 : Int) a2).1)).1).name, phase := (3 : Int), num := (0 : Int) } : XObj)))]⟩ [])
                (.ask (((r12_GetF (r12_UniqF a0) (3 : Int) a2).1).deleting)
                  (.ask ((((r12_GetF (r12_UniqF a0) (3 : Int) a2).1).num) == (0 : Int))
                    (.leaf .ret ⟨slots 133 [(6, .ptr 0 0)], [.cells 36 (ac (r12_RemoveF ((r12_GetF (r12_UniqF a0) (3 : Int) a2).1)))]⟩ [])
                    (.ask ((((r12_GetF (r12_UniqF a0) (3 : Int) a2).1).phase) == (2 : Int))
                      (.leaf .ret ⟨slots 133 [(6, .ptr 0 0)], [.cells 36 (ac (r12_WriteF ({ ((r12_GetF (r12_UniqF a0) (3 : Int) a2).1) with phase := (1 : Int), num := (IntKind.u64.wrap (a1 + (1 : Int))) } : XObj)))]⟩ [])
                      (.need [((r12_GetF (r12_UniqF a0) (3 : Int) a2).1).Fine]
                        (.leaf .ret ⟨slots 133 [(6, .ptr 0 0)], [.cells 36 (ac (r12_AskF (⟨(2 : Int), r12_HandleF ((r12_GetF (r12_UniqF a0) (3 : Int) a2).1), (((r12_GetF (r12_UniqF a0) (3 : Int) a2).1).num), (0 : Int), (⟨#[]⟩ : ByteArray), (⟨#[]⟩ : ByteArray), (⟨#[]⟩ : ByteArray)⟩ : XCall)))]⟩ []))))
                  (.ask ((((r12_GetF (r12_UniqF a0) (3 : Int) a2).1).phase) == (2 : Int))
                    (.need [((r12_GetF (r12_UniqF a0) (3 : Int) a2).1).Fine]
                      (.ask (!(decide ((((r12_GetF (r12_UniqF a0) (3 : Int) a2).1).source) = (⟨#[]⟩ : ByteArray))))
                        (.need [(r12_UniqF a0).length < 4611686018427387904]
                          (.ask (!((r12_GetF (r12_UniqF a0) (7 : Int) (((r12_GetF (r12_UniqF a0) (3 : Int) a2).1).source)).2))
                            (.leaf .ret ⟨slots 133 [(6, .ptr 0 0)], [.cells 36 [.int .u8 0, .int .u8 0, .str (⟨#[]⟩ : ByteArray), .int .u64 0, .int .u64 0, .bool false, .bool false, .str (⟨#[]⟩ : ByteArray), .int .i64 0, .int .i64 0, .int .u8 0, .bool false, .bool false, .str (⟨#[]⟩ : ByteArray), .str (⟨#[]⟩ : ByteArray), .str (⟨#[]⟩ : ByteArray), .str (⟨#[]⟩ : ByteArray), .str (⟨#[]⟩ : ByteArray), .int .u8 0, .int .u64 0, .int .u64 0, .int .u8 0, .str (⟨#[]⟩ : ByteArray), .int .u64 0, .int .i64 0, .str (⟨#[]⟩ : ByteArray), .str (⟨#[]⟩ : ByteArray), .str (⟨#[]⟩ : ByteArray)]]⟩ [])
                            (.need [(⟨#[115, 110, 97, 112, 47]⟩ : ByteArray).size + (((r12_GetF (r12_UniqF a0) (7 : Int) (((r12_GetF (r12_UniqF a0) (3 : Int) a2).1).source)).1).name).size ≤ 9223372036854775807, ((⟨#[115, 110, 97, 112, 47]⟩ : ByteArray) ++ (((r12_GetF (r12_UniqF a0) (7 : Int) (((r12_GetF (r12_UniqF a0) (3 : Int) a2).1).source)).1).name)).size + (⟨#[35]⟩ : ByteArray).size ≤ 9223372036854775807, 0 ≤ (((r12_GetF (r12_UniqF a0) (7 : Int) (((r12_GetF (r12_UniqF a0) (3 : Int) a2).1).source)).1).born) ∧ (((r12_GetF (r12_UniqF a0) (7 : Int) (((r12_GetF (r12_UniqF a0) (3 : Int) a2).1).source)).1).born) ≤ 18446744073709551615, (((⟨#[115, 110, 97, 112, 47]⟩ : ByteArray) ++ (((r12_GetF (r12_UniqF a0) (7 : Int) (((r12_GetF (r12_UniqF a0) (3 : Int) a2).1).source)).1).name)) ++ (⟨#[35]⟩ : ByteArray)).size + (fmtU (((r12_GetF (r12_UniqF a0) (7 : Int) (((r12_GetF (r12_UniqF a0) (3 : Int) a2).1).source)).1).born)).size ≤ 9223372036854775807]
                              (.leaf .ret ⟨slots 133 [(6, .ptr 0 0)], [.cells 36 (ac (r12_AskF (⟨(1 : Int), r12_HandleF ((r12_GetF (r12_UniqF a0) (3 : Int) a2).1), (((r12_GetF (r12_UniqF a0) (3 : Int) a2).1).num), (((r12_GetF (r12_UniqF a0) (3 : Int) a2).1).size), ((r12_GetF (r12_UniqF a0) (3 : Int) a2).1).zone, (⟨#[]⟩ : ByteArray), (((⟨#[115, 110, 97, 112, 47]⟩ : ByteArray) ++ (((r12_GetF (r12_UniqF a0) (7 : Int) (((r12_GetF (r12_UniqF a0) (3 : Int) a2).1).source)).1).name)) ++ (⟨#[35]⟩ : ByteArray)) ++ (fmtU (((r12_GetF (r12_UniqF a0) (7 : Int) (((r12_GetF (r12_UniqF a0) (3 : Int) a2).1).source)).1).born))⟩ : XCall)))]⟩ []))))
                        (.leaf .ret ⟨slots 133 [(6, .ptr 0 0)], [.cells 36 (ac (r12_AskF (⟨(1 : Int), r12_HandleF ((r12_GetF (r12_UniqF a0) (3 : Int) a2).1), (((r12_GetF (r12_UniqF a0) (3 : Int) a2).1).num), (((r12_GetF (r12_UniqF a0) (3 : Int) a2).1).size), ((r12_GetF (r12_UniqF a0) (3 : Int) a2).1).zone, (⟨#[]⟩ : ByteArray), (⟨#[]⟩ : ByteArray)⟩ : XCall)))]⟩ [])))
                    (.ask (!((((r12_GetF (r12_UniqF a0) (3 : Int) a2).1).phase) == (1 : Int)))
                      (.leaf .ret ⟨slots 133 [(6, .ptr 0 0)], [.cells 36 [.int .u8 0, .int .u8 0, .str (⟨#[]⟩ : ByteArray), .int .u64 0, .int .u64 0, .bool false, .bool false, .str (⟨#[]⟩ : ByteArray), .int .i64 0, .int .i64 0, .int .u8 0, .bool false, .bool false, .str (⟨#[]⟩ : ByteArray), .str (⟨#[]⟩ : ByteArray), .str (⟨#[]⟩ : ByteArray), .str (⟨#[]⟩ : ByteArray), .str (⟨#[]⟩ : ByteArray), .int .u8 0, .int .u64 0, .int .u64 0, .int .u8 0, .str (⟨#[]⟩ : ByteArray), .int .u64 0, .int .i64 0, .str (⟨#[]⟩ : ByteArray), .str (⟨#[]⟩ : ByteArray), .str (⟨#[]⟩ : ByteArray)]]⟩ [])
                      (.need [(r12_UniqF a0).length ≤ 64, ∀ o ∈ (r12_UniqF a0), o.Fine, ((r12_GetF (r12_UniqF a0) (3 : Int) a2).1).Fine]
                        (.leaf .ret ⟨slots 133 [(6, .ptr 0 0)], [.cells 36 (ac (r12_pendingF (r12_UniqF a0) a1 ((r12_GetF (r12_UniqF a0) (3 : Int) a2).1)))]⟩ []))))))))))))
end Go.Proofs.YtnfmnipckcidlaaDoor
