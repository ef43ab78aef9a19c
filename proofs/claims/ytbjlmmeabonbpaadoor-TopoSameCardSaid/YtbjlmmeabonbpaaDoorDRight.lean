/- Topo: what is right. -/
import Derived.Test.YtbjlmmeabonbpaaDoorDWord
set_option linter.unusedVariables false
set_option linter.unusedSimpArgs false
set_option maxRecDepth 100000
namespace Go.Proofs.YtbjlmmeabonbpaaDoor
open Go Go.Eng
noncomputable def E_topo_rightLabels_1 : Env := envOf (P := Tryd.prog) [topo_Word_fact] [] [] ckf
def topo_rightLabels_1F (a0 : XLabel) : Bool :=
  !(topo_WordF a0.value)
def topo_rightLabels_1R (a0 : XLabel) : RT :=
  (.need [a0.value.size < 4611686018427387904]
    (.leaf .ret ⟨slots 7 [(2, .bool (!(topo_WordF a0.value)))], []⟩ []))
theorem topo_rightLabels_1F_tr (a0 : XLabel) (hp0 : a0.value.size < 4611686018427387904) : Tr Tryd.prog 0 (bodyOf Tryd.f73) (fnBegins Tryd.f73 [.agg [.str a0.key, .str a0.value]] []) (fnEnds Tryd.prog Tryd.f73 (.bool (topo_rightLabels_1F a0)) []) := by
  refine Tr_tree (kok _ _ _ _ _ _) (E := E_topo_rightLabels_1) (L := noLoops) 60 9999 LoopsOk.none (topo_rightLabels_1R a0) (by kernel_rfl) (by kernel_rfl) (by kernel_rfl) ?_
  unfold topo_rightLabels_1R
  refine ⟨need_cons (by first | assumption | omega | (intro; omega) | (simp only [decide_eq_true_eq, decide_eq_false_iff_not, Bool.cond_false_right, Bool.cond_true_right, Bool.cond_true_left, Bool.cond_false_left, Bool.and_eq_true, Bool.or_eq_true, Bool.not_eq_true', bytesLim, maxLen, List.length_cons, List.length_nil, List.length_append, byteSize_lit] at *; omega) | (intro; simp only [decide_eq_true_eq, decide_eq_false_iff_not, Bool.cond_false_right, Bool.cond_true_right, Bool.cond_true_left, Bool.cond_false_left, Bool.and_eq_true, Bool.or_eq_true, Bool.not_eq_true', bytesLim, maxLen, List.length_cons, List.length_nil, List.length_append, byteSize_lit] at *; omega)) (need_nil), ?_⟩
  exact ⟨trivial, .inl (by kernel_rfl), by kernel_rfl⟩
noncomputable def topo_rightLabels_1_fact : Fact Tryd.prog := factOf 73 Tryd.f73 (by kernel_rfl) rfl (by kernel_rfl) [.st .label] [] true (fun t u => .bool (topo_rightLabels_1F t.1)) (fun t u => []) (fun t u => [t.1.value.size < 4611686018427387904])
  (fun _ _ _ => rfl) (fun t u => by kernel_rfl) (fun t u => by kernel_rfl) (fun t u h => topo_rightLabels_1F_tr t.1 (h _ List.mem_cons_self))
noncomputable def E_topo_Label_4 : Env := envOf (P := Tryd.prog) [topo_rightLabels_1_fact] [] [] ckf
def topo_Label_4LF  : List XLabel → Nat → Bool × Int
  | [], i => (false, default)
  | o :: r, i => cond (topo_rightLabels_1F o)
    (true, (i : Int))
    (topo_Label_4LF r (i + 1))
def topo_Label_4LS (a0 : List XLabel) (i : Nat) : St :=
  ⟨slots 19 [(0, .coll ⟨.label, a0⟩), (1, .fn 73 []), (7, .int .i64 (a0.length : Int)), (8, .int .i64 (i : Int))], []⟩
def topo_Label_4LR (a0 : List XLabel) (i : Nat) : RT :=
  (.ask (decide ((i : Int) < (a0.length : Int)))
    (.need [0 ≤ (i : Int) ∧ (i : Int) < (a0.length : Int)]
      (.need [(a0.getD i default).value.size < 4611686018427387904]
        (.ask (topo_rightLabels_1F (a0.getD i default))
          (.leaf .ret ⟨slots 19 [(4, .int .i64 (i : Int))], []⟩ [])
          (.leaf .normal ⟨slots 19 [(0, .coll ⟨.label, a0⟩), (1, .fn 73 []), (7, .int .i64 (a0.length : Int)), (8, .int .i64 (IntKind.i64.wrap ((i : Int) + (1 : Int))))], []⟩ []))))
    (.leaf (.exit 0) ⟨slots 19 [], []⟩ []))
def topo_Label_4LT (a0 : List XLabel) (i : Nat) : Tree :=
  .ask ((topo_Label_4LF (a0.drop i) i).1) (.leaf .ret ⟨slots 19 [(4, .int .i64 ((topo_Label_4LF (a0.drop i) i).2))], []⟩) (.leaf (.exit 0) ⟨slots 19 [], []⟩)
theorem topo_Label_4L_loop (a0 : List XLabel) (hp0 : a0.length ≤ 4294967296) (hp1 : ∀ q ∈ a0, q.Fine) (hlen : a0.length < 4611686018427387904) (z : { z : Nat // z ≤ a0.length }) (Q : Exit → St → Prop) (h : (topo_Label_4LT a0 z.1).All Q) : Tr Tryd.prog 0 (.loop (loopAt Tryd.f72 0)) (topo_Label_4LS a0 z.1) Q := by
  refine Tr_loopT (kok _ _ _ _ _ _) (E := E_topo_Label_4) (ι := { z : Nat // z ≤ a0.length }) 60 0 (fun _ => noLoops) (fun z => topo_Label_4LS a0 z.1) (fun z => topo_Label_4LT a0 z.1) (fun z => topo_Label_4LR a0 z.1) (fun z => a0.length - z.1) (fun _ => LoopsOk.none) (fun z => by obtain ⟨i, hi⟩ := z; kernel_rfl) (fun z => by obtain ⟨i, hi⟩ := z; kernel_rfl) (fun z => by obtain ⟨i, hi⟩ := z; kernel_rfl) ?_ z Q h
  rintro ⟨i, hi⟩ Q hT
  replace hT : (topo_Label_4LT a0 i).All Q := hT
  replace hi : i ≤ a0.length := hi
  show (topo_Label_4LR a0 i).All _
  unfold topo_Label_4LR
  refine ⟨fun h0 => ?_, fun h0 => ?_⟩
  · have hlt : i < a0.length := by simpa using h0
    have hd := drop_getD hlt
    have hw := wrap_succ (i := i) (by omega)
    refine ⟨need_cons (by omega) (need_nil), ?_⟩
    refine ⟨need_cons (by exact (hp1 _ (gD_mem hlt)).2) (need_nil), ?_⟩
    refine ⟨fun h1 => ?_, fun h1 => ?_⟩
    · have hF : topo_Label_4LF (a0.drop i) i = (true, (i : Int)) := by rw [hd]; first | exact (cond_t h1 rfl) | simp only [topo_Label_4LF, h0, h1, cond_true, cond_false]
      unfold topo_Label_4LT at hT
      rw [hF] at hT
      exact hT.1 rfl
    · have hF : topo_Label_4LF (a0.drop i) i = topo_Label_4LF (a0.drop (i + 1)) (i + 1) := by rw [hd]; first | exact (cond_f h1 rfl) | simp only [topo_Label_4LF, h0, h1, cond_true, cond_false]
      refine ⟨⟨(i + 1), by show (i + 1) ≤ a0.length; omega⟩, by show a0.length - (i + 1) < a0.length - i; omega, ?_, ?_⟩
      · show _ = topo_Label_4LS a0 (i + 1)
        unfold topo_Label_4LS
        simp only [hw]
      · show (topo_Label_4LT a0 (i + 1)).All Q
        unfold topo_Label_4LT at hT ⊢
        rw [hF] at hT
        exact hT
  · have hge : ¬ i < a0.length := by simpa using h0
    have hd : a0.drop i = [] := List.drop_eq_nil_of_le (by omega)
    have hF : topo_Label_4LF (a0.drop i) i = (false, default) := by rw [hd]; first | exact rfl | simp only [topo_Label_4LF, h0, cond_true, cond_false]
    unfold topo_Label_4LT at hT
    rw [hF] at hT
    exact hT.2 rfl
def topo_Label_4F (a0 : List XLabel) : Int :=
  cond ((topo_Label_4LF a0 0).1)
    ((topo_Label_4LF a0 0).2)
    (-1 : Int)
def topo_Label_4R (a0 : List XLabel) : RT :=
  (.ask ((topo_Label_4LF a0 0).1)
    (.leaf .ret ⟨slots 19 [(4, .int .i64 ((topo_Label_4LF a0 0).2))], []⟩ [])
    (.leaf .ret ⟨slots 19 [(4, .int .i64 (-1))], []⟩ []))
theorem topo_Label_4F_tr (a0 : List XLabel) (hp0 : a0.length ≤ 4294967296) (hp1 : ∀ q ∈ a0, q.Fine) : Tr Tryd.prog 0 (bodyOf Tryd.f72) (fnBegins Tryd.f72 [.coll ⟨.label, a0⟩, .fn 73 []] []) (fnEnds Tryd.prog Tryd.f72 (.int .i64 (topo_Label_4F a0)) []) := by
  refine Tr_tree (kok _ _ _ _ _ _) (E := E_topo_Label_4) (L := (loopsOf [(0, topo_Label_4LS a0 0, [], topo_Label_4LT a0 0)])) 60 9999 (LoopsOk.one (g := loopAt Tryd.f72 0) (b := 0) (by kernel_rfl) (by kernel_rfl) (by kernel_rfl) (by kernel_rfl) (fun Q h => topo_Label_4L_loop a0 hp0 hp1 (by omega) ⟨0, by first | exact Nat.zero_le _ | (show 0 ≤ a0.length; omega) | (show 0 ≤ a0.length; exact ⟨Nat.zero_le _, by assumption⟩) | (show 0 ≤ a0.length; simp)⟩ Q h)) (topo_Label_4R a0) (by kernel_rfl) (by kernel_rfl) (by kernel_rfl) ?_
  unfold topo_Label_4R
  refine ⟨fun h0 => ?_, fun h0 => ?_⟩
  · have hF : topo_Label_4F a0 = ((topo_Label_4LF a0 0).2) := by first | exact (cond_t h0 rfl) | simp only [topo_Label_4F, h0, cond_true, cond_false]
    exact ⟨trivial, .inl (by first | (rw [hF]; kernel_rfl) | kernel_rfl), by first | (rw [hF]; kernel_rfl) | kernel_rfl⟩
  · have hF : topo_Label_4F a0 = (-1 : Int) := by first | exact (cond_f h0 rfl) | simp only [topo_Label_4F, h0, cond_true, cond_false]
    exact ⟨trivial, .inl (by first | (rw [hF]; kernel_rfl) | kernel_rfl), by first | (rw [hF]; kernel_rfl) | kernel_rfl⟩
noncomputable def topo_Label_4_fact : Fact Tryd.prog := factOf 72 Tryd.f72 (by kernel_rfl) rfl (by kernel_rfl) [.c (.coll .label), .c (.fn 73)] [] true (fun t u => .int .i64 (topo_Label_4F t.1)) (fun t u => []) (fun t u => [t.1.length ≤ 4294967296, ∀ q ∈ t.1, q.Fine])
  (fun _ _ _ => rfl) (fun t u => by kernel_rfl) (fun t u => by kernel_rfl) (fun t u h => topo_Label_4F_tr t.1 (h _ List.mem_cons_self) (h _ (List.mem_cons_of_mem _ List.mem_cons_self)))
noncomputable def E_topo_rightLabels_2 : Env := envOf (P := Tryd.prog) [] [] [] ckf
def topo_rightLabels_2F (a0 : XLabel) : ByteArray :=
  a0.key
def topo_rightLabels_2R (a0 : XLabel) : RT :=
  (.leaf .ret ⟨slots 5 [(2, .str a0.key)], []⟩ [])
theorem topo_rightLabels_2F_tr (a0 : XLabel)  : Tr Tryd.prog 0 (bodyOf Tryd.f74) (fnBegins Tryd.f74 [.agg [.str a0.key, .str a0.value]] []) (fnEnds Tryd.prog Tryd.f74 (.str (topo_rightLabels_2F a0)) []) := by
  refine Tr_tree (kok _ _ _ _ _ _) (E := E_topo_rightLabels_2) (L := noLoops) 60 9999 LoopsOk.none (topo_rightLabels_2R a0) (by kernel_rfl) (by kernel_rfl) (by kernel_rfl) ?_
  unfold topo_rightLabels_2R
  exact ⟨trivial, .inl (by kernel_rfl), by kernel_rfl⟩
noncomputable def topo_rightLabels_2_fact : Fact Tryd.prog := factOf 74 Tryd.f74 (by kernel_rfl) rfl (by kernel_rfl) [.st .label] [] true (fun t u => .str (topo_rightLabels_2F t.1)) (fun t u => []) (fun t u => [])
  (fun _ _ _ => rfl) (fun t u => by kernel_rfl) (fun t u => by kernel_rfl) (fun t u h => topo_rightLabels_2F_tr t.1 )
noncomputable def E_topo_Label_5 : Env := envOf (P := Tryd.prog) [topo_rightLabels_2_fact] [] [] ckf
def topo_Label_5LF  : List XLabel → List ByteArray → List ByteArray
  | [], v3 => v3
  | o :: r, v3 => topo_Label_5LF r (v3 ++ [topo_rightLabels_2F o])
def topo_Label_5LS (a0 : List XLabel) (i : Nat) (v3 : List ByteArray) : St :=
  ⟨slots 25 [(1, .fn 74 []), (5, .vec 0), (11, .coll ⟨.label, a0⟩), (12, .int .i64 (a0.length : Int)), (13, .int .i64 (i : Int))], [.vec true ⟨.str, v3⟩]⟩
def topo_Label_5LR (a0 : List XLabel) (i : Nat) (v3 : List ByteArray) : RT :=
  (.ask (decide ((i : Int) < (a0.length : Int)))
    (.need [0 ≤ (i : Int) ∧ (i : Int) < (a0.length : Int)]
      (.need [(v3.length + [topo_rightLabels_2F (a0.getD i default)].length) * 16 ≤ bytesLim ∧ v3.length + [topo_rightLabels_2F (a0.getD i default)].length ≤ maxLen]
        (.leaf .normal ⟨slots 25 [(1, .fn 74 []), (5, .vec 0), (11, .coll ⟨.label, a0⟩), (12, .int .i64 (a0.length : Int)), (13, .int .i64 (IntKind.i64.wrap ((i : Int) + (1 : Int))))], [.vec true ⟨.str, (v3 ++ [topo_rightLabels_2F (a0.getD i default)])⟩]⟩ [3])))
    (.leaf (.exit 0) ⟨slots 25 [(5, .vec 0)], [.vec true ⟨.str, v3⟩]⟩ []))
def topo_Label_5LT (a0 : List XLabel) (i : Nat) (v3 : List ByteArray) : Tree :=
  .leaf (.exit 0) ⟨slots 25 [(5, .vec 0)], [.vec true ⟨.str, topo_Label_5LF (a0.drop i) v3⟩]⟩
theorem topo_Label_5L_loop (a0 : List XLabel) (hp0 : a0.length ≤ 4294967296) (hlen : a0.length < 4611686018427387904) (z : { z : Nat × List ByteArray // z.1 ≤ a0.length ∧ z.2.length ≤ z.1 }) (Q : Exit → St → Prop) (h : (topo_Label_5LT a0 z.1.1 z.1.2).All Q) : Tr Tryd.prog 0 (.loop (loopAt Tryd.f54 0)) (topo_Label_5LS a0 z.1.1 z.1.2) Q := by
  refine Tr_loopT (kok _ _ _ _ _ _) (E := E_topo_Label_5) (ι := { z : Nat × List ByteArray // z.1 ≤ a0.length ∧ z.2.length ≤ z.1 }) 60 0 (fun _ => noLoops) (fun z => topo_Label_5LS a0 z.1.1 z.1.2) (fun z => topo_Label_5LT a0 z.1.1 z.1.2) (fun z => topo_Label_5LR a0 z.1.1 z.1.2) (fun z => a0.length - z.1.1) (fun _ => LoopsOk.none) (fun z => by obtain ⟨⟨i, v3⟩, hi⟩ := z; kernel_rfl) (fun z => by obtain ⟨⟨i, v3⟩, hi⟩ := z; kernel_rfl) (fun z => by obtain ⟨⟨i, v3⟩, hi⟩ := z; kernel_rfl) ?_ z Q h
  rintro ⟨⟨i, v3⟩, hi⟩ Q hT
  replace hT : (topo_Label_5LT a0 i v3).All Q := hT
  replace hi : i ≤ a0.length ∧ v3.length ≤ i := hi
  show (topo_Label_5LR a0 i v3).All _
  unfold topo_Label_5LR
  refine ⟨fun h0 => ?_, fun h0 => ?_⟩
  · have hlt : i < a0.length := by simpa using h0
    have hd := drop_getD hlt
    have hw := wrap_succ (i := i) (by omega)
    refine ⟨need_cons (by first | assumption | omega | (intro; omega) | (simp only [decide_eq_true_eq, decide_eq_false_iff_not, Bool.cond_false_right, Bool.cond_true_right, Bool.cond_true_left, Bool.cond_false_left, Bool.and_eq_true, Bool.or_eq_true, Bool.not_eq_true', bytesLim, maxLen, List.length_cons, List.length_nil, List.length_append, byteSize_lit] at *; omega) | (intro; simp only [decide_eq_true_eq, decide_eq_false_iff_not, Bool.cond_false_right, Bool.cond_true_right, Bool.cond_true_left, Bool.cond_false_left, Bool.and_eq_true, Bool.or_eq_true, Bool.not_eq_true', bytesLim, maxLen, List.length_cons, List.length_nil, List.length_append, byteSize_lit] at *; omega)) (need_nil), ?_⟩
    refine ⟨need_cons (by unfold bytesLim maxLen; simp only [List.length_cons, List.length_nil]; omega) (need_nil), ?_⟩
    have hF : topo_Label_5LF (a0.drop i) v3 = topo_Label_5LF (a0.drop (i + 1)) (v3 ++ [topo_rightLabels_2F (a0.getD i default)]) := by rw [hd]; first | exact rfl | simp only [topo_Label_5LF, h0, cond_true, cond_false]
    refine ⟨⟨((i + 1), (v3 ++ [topo_rightLabels_2F (a0.getD i default)])), by (first | dsimp only | skip); constructor <;> (try simp only [List.length_append, List.length_cons, List.length_nil]) <;> omega⟩, by show a0.length - (i + 1) < a0.length - i; omega, ?_, ?_⟩
    · show _ = topo_Label_5LS a0 (i + 1) (v3 ++ [topo_rightLabels_2F (a0.getD i default)])
      unfold topo_Label_5LS
      simp only [hw]
    · show (topo_Label_5LT a0 (i + 1) (v3 ++ [topo_rightLabels_2F (a0.getD i default)])).All Q
      unfold topo_Label_5LT at hT ⊢
      rw [hF] at hT
      exact hT
  · have hge : ¬ i < a0.length := by simpa using h0
    have hd : a0.drop i = [] := List.drop_eq_nil_of_le (by omega)
    have hF : topo_Label_5LF (a0.drop i) v3 = v3 := by rw [hd]; first | exact rfl | simp only [topo_Label_5LF, h0, cond_true, cond_false]
    unfold topo_Label_5LT at hT
    rw [hF] at hT
    exact hT
def topo_Label_5F (a0 : List XLabel) : List ByteArray :=
  topo_Label_5LF a0 []
def topo_Label_5R (a0 : List XLabel) : RT :=
  (.need [0 ≤ (0 : Int) ∧ (0 : Int) ≤ (a0.length : Int) ∧ (a0.length : Int) * 16 ≤ 281474976710656 ∧ (a0.length : Int) ≤ 9223372036854775807]
    (.leaf .ret ⟨slots 25 [(4, .vec 0)], [.vec true ⟨.str, topo_Label_5LF a0 []⟩]⟩ []))
theorem topo_Label_5F_tr (a0 : List XLabel) (hp0 : a0.length ≤ 4294967296) : Tr Tryd.prog 0 (bodyOf Tryd.f54) (fnBegins Tryd.f54 [.coll ⟨.label, a0⟩, .fn 74 []] []) (fnEnds Tryd.prog Tryd.f54 (.vec 0) [.vec true ⟨.str, topo_Label_5F a0⟩]) := by
  refine Tr_tree (kok _ _ _ _ _ _) (E := E_topo_Label_5) (L := (loopsOf [(0, topo_Label_5LS a0 0 [], [1], topo_Label_5LT a0 0 [])])) 60 9999 (LoopsOk.one (g := loopAt Tryd.f54 0) (b := 0) (by kernel_rfl) (by kernel_rfl) (by kernel_rfl) (by kernel_rfl) (fun Q h => topo_Label_5L_loop a0 hp0 (by omega) ⟨(0, []), ⟨Nat.zero_le _, Nat.le_refl _⟩⟩ Q h)) (topo_Label_5R a0) (by kernel_rfl) (by kernel_rfl) (by kernel_rfl) ?_
  unfold topo_Label_5R
  refine ⟨need_cons (by omega) (need_nil), ?_⟩
  exact ⟨trivial, .inl (by kernel_rfl), by kernel_rfl⟩
noncomputable def topo_Label_5_fact : Fact Tryd.prog := factOf 54 Tryd.f54 (by kernel_rfl) rfl (by kernel_rfl) [.c (.coll .label), .c (.fn 74)] [] false (fun t u => .vec 0) (fun t u => [.vec true ⟨.str, topo_Label_5F t.1⟩]) (fun t u => [t.1.length ≤ 4294967296])
  (nofun) (fun t u => by kernel_rfl) (fun t u => by kernel_rfl) (fun t u h => topo_Label_5F_tr t.1 (h _ List.mem_cons_self))
noncomputable def E_topo_rising : Env := envOf (P := Tryd.prog) [topo_Word_fact] [] [] ckf
def topo_risingLF (a0 : List ByteArray) : List ByteArray → Nat → Bool
  | [], i => false
  | o :: r, i => cond (cond (!(topo_WordF o)) true (cond (decide ((i : Int) > (0 : Int))) (!(strLess (a0.getD ((IntKind.i64.wrap ((i : Int) - (1 : Int))).toNat) default) o)) false))
    true
    (topo_risingLF a0 r (i + 1))
def topo_risingLS (a0 : List ByteArray) (i : Nat) : St :=
  ⟨slots 29 [(0, .coll ⟨.str, a0⟩), (5, .coll ⟨.str, a0⟩), (6, .int .i64 (a0.length : Int)), (7, .int .i64 (i : Int))], []⟩
def topo_risingLR (a0 : List ByteArray) (i : Nat) : RT :=
  (.ask (decide ((i : Int) < (a0.length : Int)))
    (.need [0 ≤ (i : Int) ∧ (i : Int) < (a0.length : Int)]
      (.need [(a0.getD i default).size < 4611686018427387904]
        (.need [(((!(topo_WordF (a0.getD i default))) = false) ∧ (decide ((i : Int) > (0 : Int))) = true) → (0 ≤ (IntKind.i64.wrap ((i : Int) - (1 : Int))) ∧ (IntKind.i64.wrap ((i : Int) - (1 : Int))) < (a0.length : Int))]
          (.ask (cond (!(topo_WordF (a0.getD i default))) true (cond (decide ((i : Int) > (0 : Int))) (!(strLess (a0.getD ((IntKind.i64.wrap ((i : Int) - (1 : Int))).toNat) default) (a0.getD i default))) false))
            (.leaf .ret ⟨slots 29 [(2, .bool false)], []⟩ [])
            (.leaf .normal ⟨slots 29 [(0, .coll ⟨.str, a0⟩), (5, .coll ⟨.str, a0⟩), (6, .int .i64 (a0.length : Int)), (7, .int .i64 (IntKind.i64.wrap ((i : Int) + (1 : Int))))], []⟩ [])))))
    (.leaf (.exit 0) ⟨slots 29 [], []⟩ []))
def topo_risingLT (a0 : List ByteArray) (i : Nat) : Tree :=
  .ask (topo_risingLF a0 (a0.drop i) i) (.leaf .ret ⟨slots 29 [(2, .bool false)], []⟩) (.leaf (.exit 0) ⟨slots 29 [], []⟩)
theorem topo_risingL_loop (a0 : List ByteArray) (hp0 : a0.length < 4611686018427387904) (hp1 : ∀ q ∈ a0, q.size < 4611686018427387904) (hlen : a0.length < 4611686018427387904) (z : { z : Nat // z ≤ a0.length }) (Q : Exit → St → Prop) (h : (topo_risingLT a0 z.1).All Q) : Tr Tryd.prog 0 (.loop (loopAt Tryd.f69 0)) (topo_risingLS a0 z.1) Q := by
  refine Tr_loopT (kok _ _ _ _ _ _) (E := E_topo_rising) (ι := { z : Nat // z ≤ a0.length }) 60 0 (fun _ => noLoops) (fun z => topo_risingLS a0 z.1) (fun z => topo_risingLT a0 z.1) (fun z => topo_risingLR a0 z.1) (fun z => a0.length - z.1) (fun _ => LoopsOk.none) (fun z => by obtain ⟨i, hi⟩ := z; kernel_rfl) (fun z => by obtain ⟨i, hi⟩ := z; kernel_rfl) (fun z => by obtain ⟨i, hi⟩ := z; kernel_rfl) ?_ z Q h
  rintro ⟨i, hi⟩ Q hT
  replace hT : (topo_risingLT a0 i).All Q := hT
  replace hi : i ≤ a0.length := hi
  show (topo_risingLR a0 i).All _
  unfold topo_risingLR
  refine ⟨fun h0 => ?_, fun h0 => ?_⟩
  · have hlt : i < a0.length := by simpa using h0
    have hd := drop_getD hlt
    have hw := wrap_succ (i := i) (by omega)
    refine ⟨need_cons (by first | assumption | omega | (intro; omega) | (simp only [decide_eq_true_eq, decide_eq_false_iff_not, Bool.cond_false_right, Bool.cond_true_right, Bool.cond_true_left, Bool.cond_false_left, Bool.and_eq_true, Bool.or_eq_true, Bool.not_eq_true', bytesLim, maxLen, List.length_cons, List.length_nil, List.length_append, byteSize_lit] at *; omega) | (intro; simp only [decide_eq_true_eq, decide_eq_false_iff_not, Bool.cond_false_right, Bool.cond_true_right, Bool.cond_true_left, Bool.cond_false_left, Bool.and_eq_true, Bool.or_eq_true, Bool.not_eq_true', bytesLim, maxLen, List.length_cons, List.length_nil, List.length_append, byteSize_lit] at *; omega)) (need_nil), ?_⟩
    refine ⟨need_cons (by exact (hp1 _ (gD_mem hlt))) (need_nil), ?_⟩
    refine ⟨need_cons (by intro hg; (first | (obtain ⟨_, hg⟩ := hg; simp only [decide_eq_true_eq] at hg; rw [IntKind.wrap_i64]; omega) | (simp only [decide_eq_true_eq] at hg; rw [IntKind.wrap_i64]; omega))) (need_nil), ?_⟩
    refine ⟨fun h1 => ?_, fun h1 => ?_⟩
    · have hF : topo_risingLF a0 (a0.drop i) i = true := by rw [hd]; first | exact (cond_t h1 rfl) | simp only [topo_risingLF, h0, h1, cond_true, cond_false]
      unfold topo_risingLT at hT
      rw [hF] at hT
      exact hT.1 rfl
    · have hF : topo_risingLF a0 (a0.drop i) i = topo_risingLF a0 (a0.drop (i + 1)) (i + 1) := by rw [hd]; first | exact (cond_f h1 rfl) | simp only [topo_risingLF, h0, h1, cond_true, cond_false]
      refine ⟨⟨(i + 1), by show (i + 1) ≤ a0.length; omega⟩, by show a0.length - (i + 1) < a0.length - i; omega, ?_, ?_⟩
      · show _ = topo_risingLS a0 (i + 1)
        unfold topo_risingLS
        simp only [hw]
      · show (topo_risingLT a0 (i + 1)).All Q
        unfold topo_risingLT at hT ⊢
        rw [hF] at hT
        exact hT
  · have hge : ¬ i < a0.length := by simpa using h0
    have hd : a0.drop i = [] := List.drop_eq_nil_of_le (by omega)
    have hF : topo_risingLF a0 (a0.drop i) i = false := by rw [hd]; first | exact rfl | simp only [topo_risingLF, h0, cond_true, cond_false]
    unfold topo_risingLT at hT
    rw [hF] at hT
    exact hT.2 rfl
def topo_risingF (a0 : List ByteArray) : Bool :=
  cond (topo_risingLF a0 a0 0)
    false
    true
def topo_risingR (a0 : List ByteArray) : RT :=
  (.ask (topo_risingLF a0 a0 0)
    (.leaf .ret ⟨slots 29 [(2, .bool false)], []⟩ [])
    (.leaf .ret ⟨slots 29 [(2, .bool true)], []⟩ []))
theorem topo_risingF_tr (a0 : List ByteArray) (hp0 : a0.length < 4611686018427387904) (hp1 : ∀ q ∈ a0, q.size < 4611686018427387904) : Tr Tryd.prog 0 (bodyOf Tryd.f69) (fnBegins Tryd.f69 [.coll ⟨.str, a0⟩] []) (fnEnds Tryd.prog Tryd.f69 (.bool (topo_risingF a0)) []) := by
  refine Tr_tree (kok _ _ _ _ _ _) (E := E_topo_rising) (L := (loopsOf [(0, topo_risingLS a0 0, [], topo_risingLT a0 0)])) 60 9999 (LoopsOk.one (g := loopAt Tryd.f69 0) (b := 0) (by kernel_rfl) (by kernel_rfl) (by kernel_rfl) (by kernel_rfl) (fun Q h => topo_risingL_loop a0 hp0 hp1 (by first | assumption | omega | (simp only [List.length_cons, List.length_nil, List.length_append]; omega)) ⟨0, by first | exact Nat.zero_le _ | (show 0 ≤ a0.length; omega) | (show 0 ≤ a0.length; exact ⟨Nat.zero_le _, by assumption⟩) | (show 0 ≤ a0.length; simp)⟩ Q h)) (topo_risingR a0) (by kernel_rfl) (by kernel_rfl) (by kernel_rfl) ?_
  unfold topo_risingR
  refine ⟨fun h0 => ?_, fun h0 => ?_⟩
  · have hF : topo_risingF a0 = false := by first | exact (cond_t h0 rfl) | simp only [topo_risingF, h0, cond_true, cond_false]
    exact ⟨trivial, .inl (by first | (rw [hF]; kernel_rfl) | kernel_rfl), by first | (rw [hF]; kernel_rfl) | kernel_rfl⟩
  · have hF : topo_risingF a0 = true := by first | exact (cond_f h0 rfl) | simp only [topo_risingF, h0, cond_true, cond_false]
    exact ⟨trivial, .inl (by first | (rw [hF]; kernel_rfl) | kernel_rfl), by first | (rw [hF]; kernel_rfl) | kernel_rfl⟩
noncomputable def topo_rising_fact : Fact Tryd.prog := factOf 69 Tryd.f69 (by kernel_rfl) rfl (by kernel_rfl) [.c (.coll .str)] [] true (fun t u => .bool (topo_risingF t.1)) (fun t u => []) (fun t u => [t.1.length < 4611686018427387904, ∀ q ∈ t.1, q.size < 4611686018427387904])
  (fun _ _ _ => rfl) (fun t u => by kernel_rfl) (fun t u => by kernel_rfl) (fun t u h => topo_risingF_tr t.1 (h _ List.mem_cons_self) (h _ (List.mem_cons_of_mem _ List.mem_cons_self)))
noncomputable def E_topo_rightLabels : Env := envOf (P := Tryd.prog) [topo_Label_4_fact, topo_Label_5_fact, topo_rising_fact] [] [] ckf
theorem topo_Label_5LF_eq : ∀ (l : List XLabel) (v : List ByteArray), topo_Label_5LF l v = v ++ l.map XLabel.key
  | [], v => by unfold topo_Label_5LF; simp
  | o :: r, v => by
    unfold topo_Label_5LF
    rw [topo_Label_5LF_eq r]
    simp [topo_rightLabels_2F]
theorem keysL_eq (l : List XLabel) : topo_Label_5F l = l.map XLabel.key := by
  unfold topo_Label_5F
  rw [topo_Label_5LF_eq]
  rfl
theorem keysL_fine {l : List XLabel} (h : ∀ q ∈ l, q.Fine) : ∀ q ∈ topo_Label_5F l, q.size < 4611686018427387904 := by
  rw [keysL_eq]
  intro q hq
  obtain ⟨x, hx, rfl⟩ := List.mem_map.1 hq
  exact (h x hx).1
def topo_rightLabelsF (a0 : List XLabel) : Bool :=
  cond (cond (decide ((topo_Label_4F a0) < (0 : Int))) (decide ((a0.length : Int) ≤ (8 : Int))) false)
    (topo_risingF (topo_Label_5F a0))
    false
def topo_rightLabelsR (a0 : List XLabel) : RT :=
  (.need [a0.length ≤ 4294967296, ∀ q ∈ a0, q.Fine]
    (.ask (cond (decide ((topo_Label_4F a0) < (0 : Int))) (decide ((a0.length : Int) ≤ (8 : Int))) false)
      (.need [a0.length ≤ 4294967296]
        (.need [(topo_Label_5F a0).length < 4611686018427387904, ∀ q ∈ (topo_Label_5F a0), q.size < 4611686018427387904]
          (.leaf .ret ⟨slots 18 [(2, .bool (topo_risingF (topo_Label_5F a0)))], []⟩ [])))
      (.leaf .ret ⟨slots 18 [(2, .bool false)], []⟩ [])))
theorem topo_rightLabelsF_tr (a0 : List XLabel) (hp0 : a0.length ≤ 4294967296) (hp1 : ∀ q ∈ a0, q.Fine) : Tr Tryd.prog 0 (bodyOf Tryd.f42) (fnBegins Tryd.f42 [.coll ⟨.label, a0⟩] []) (fnEnds Tryd.prog Tryd.f42 (.bool (topo_rightLabelsF a0)) []) := by
  refine Tr_tree (kok _ _ _ _ _ _) (E := E_topo_rightLabels) (L := noLoops) 60 9999 LoopsOk.none (topo_rightLabelsR a0) (by kernel_rfl) (by kernel_rfl) (by kernel_rfl) ?_
  unfold topo_rightLabelsR
  refine ⟨need_cons (by (try intro _); omega) (need_cons (by assumption) (need_nil)), ?_⟩
  refine ⟨fun h0 => ?_, fun h0 => ?_⟩
  · refine ⟨need_cons (by (try intro _); omega) (need_nil), ?_⟩
    refine ⟨need_cons (by (try intro _); rw [keysL_eq, List.length_map]; omega) (need_cons (by first | exact keysL_fine hp1 | (intro _; exact keysL_fine hp1)) (need_nil)), ?_⟩
    have hF : topo_rightLabelsF a0 = (topo_risingF (topo_Label_5F a0)) := by first | exact (cond_t h0 rfl) | simp only [topo_rightLabelsF, h0, cond_true, cond_false]
    exact ⟨trivial, .inl (by first | (rw [hF]; kernel_rfl) | kernel_rfl), by first | (rw [hF]; kernel_rfl) | kernel_rfl⟩
  · have hF : topo_rightLabelsF a0 = false := by first | exact (cond_f h0 rfl) | simp only [topo_rightLabelsF, h0, cond_true, cond_false]
    exact ⟨trivial, .inl (by first | (rw [hF]; kernel_rfl) | kernel_rfl), by first | (rw [hF]; kernel_rfl) | kernel_rfl⟩
noncomputable def topo_rightLabels_fact : Fact Tryd.prog := factOf 42 Tryd.f42 (by kernel_rfl) rfl (by kernel_rfl) [.c (.coll .label)] [] true (fun t u => .bool (topo_rightLabelsF t.1)) (fun t u => []) (fun t u => [t.1.length ≤ 4294967296, ∀ q ∈ t.1, q.Fine])
  (fun _ _ _ => rfl) (fun t u => by kernel_rfl) (fun t u => by kernel_rfl) (fun t u h => topo_rightLabelsF_tr t.1 (h _ List.mem_cons_self) (h _ (List.mem_cons_of_mem _ List.mem_cons_self)))
noncomputable def E_topo_right_1 : Env := envOf (P := Tryd.prog) [topo_rising_fact] [] [] ckf
def topo_right_1F (a0_0 : ByteArray) (a0_1 : List ByteArray) : Bool :=
  cond (cond ((a0_1.length : Int) == (0 : Int)) true (decide ((a0_1.length : Int) > (8 : Int)))) true (!(topo_risingF a0_1))
def topo_right_1R (a0_0 : ByteArray) (a0_1 : List ByteArray) : RT :=
  (.need [((cond ((a0_1.length : Int) == (0 : Int)) true (decide ((a0_1.length : Int) > (8 : Int)))) = false) → (a0_1.length < 4611686018427387904), ((cond ((a0_1.length : Int) == (0 : Int)) true (decide ((a0_1.length : Int) > (8 : Int)))) = false) → (∀ q ∈ a0_1, q.size < 4611686018427387904)]
    (.leaf .ret ⟨slots 19 [(2, .bool (cond (cond ((a0_1.length : Int) == (0 : Int)) true (decide ((a0_1.length : Int) > (8 : Int)))) true (!(topo_risingF a0_1))))], []⟩ []))
theorem topo_right_1F_tr (a0_0 : ByteArray) (a0_1 : List ByteArray) (hp0 : a0_1.length < 4611686018427387904) (hp1 : ∀ q ∈ a0_1, q.size < 4611686018427387904) : Tr Tryd.prog 0 (bodyOf Tryd.f68) (fnBegins Tryd.f68 [.agg [.str a0_0, .coll ⟨.str, a0_1⟩]] []) (fnEnds Tryd.prog Tryd.f68 (.bool (topo_right_1F a0_0 a0_1)) []) := by
  refine Tr_tree (kok _ _ _ _ _ _) (E := E_topo_right_1) (L := noLoops) 60 9999 LoopsOk.none (topo_right_1R a0_0 a0_1) (by kernel_rfl) (by kernel_rfl) (by kernel_rfl) ?_
  unfold topo_right_1R
  refine ⟨need_cons (by first | assumption | omega | (intro; omega) | (simp only [decide_eq_true_eq, decide_eq_false_iff_not, Bool.cond_false_right, Bool.cond_true_right, Bool.cond_true_left, Bool.cond_false_left, Bool.and_eq_true, Bool.or_eq_true, Bool.not_eq_true', bytesLim, maxLen, List.length_cons, List.length_nil, List.length_append, byteSize_lit] at *; omega) | (intro; simp only [decide_eq_true_eq, decide_eq_false_iff_not, Bool.cond_false_right, Bool.cond_true_right, Bool.cond_true_left, Bool.cond_false_left, Bool.and_eq_true, Bool.or_eq_true, Bool.not_eq_true', bytesLim, maxLen, List.length_cons, List.length_nil, List.length_append, byteSize_lit] at *; omega)) (need_cons (by first | assumption | omega | (intro; omega) | (simp only [decide_eq_true_eq, decide_eq_false_iff_not, Bool.cond_false_right, Bool.cond_true_right, Bool.cond_true_left, Bool.cond_false_left, Bool.and_eq_true, Bool.or_eq_true, Bool.not_eq_true', bytesLim, maxLen, List.length_cons, List.length_nil, List.length_append, byteSize_lit] at *; omega) | (intro; simp only [decide_eq_true_eq, decide_eq_false_iff_not, Bool.cond_false_right, Bool.cond_true_right, Bool.cond_true_left, Bool.cond_false_left, Bool.and_eq_true, Bool.or_eq_true, Bool.not_eq_true', bytesLim, maxLen, List.length_cons, List.length_nil, List.length_append, byteSize_lit] at *; omega)) (need_nil)), ?_⟩
  exact ⟨trivial, .inl (by kernel_rfl), by kernel_rfl⟩
noncomputable def topo_right_1_fact : Fact Tryd.prog := factOf 68 Tryd.f68 (by kernel_rfl) rfl (by kernel_rfl) [.agg [.str, .coll .str]] [] true (fun t u => .bool (topo_right_1F t.1.1 t.1.2.1)) (fun t u => []) (fun t u => [t.1.2.1.length < 4611686018427387904, ∀ q ∈ t.1.2.1, q.size < 4611686018427387904])
  (fun _ _ _ => rfl) (fun t u => by kernel_rfl) (fun t u => by kernel_rfl) (fun t u h => topo_right_1F_tr t.1.1 t.1.2.1 (h _ List.mem_cons_self) (h _ (List.mem_cons_of_mem _ List.mem_cons_self)))
noncomputable def E_topo_Term_2 : Env := envOf (P := Tryd.prog) [topo_right_1_fact] [] [] ckf
def topo_Term_2LF  : List XTerm → Nat → Bool × Int
  | [], i => (false, default)
  | o :: r, i => cond (topo_right_1F (o.key) (o.values))
    (true, (i : Int))
    (topo_Term_2LF r (i + 1))
def topo_Term_2LS (a0 : List XTerm) (i : Nat) : St :=
  ⟨slots 19 [(0, .coll ⟨.term, a0⟩), (1, .fn 68 []), (7, .int .i64 (a0.length : Int)), (8, .int .i64 (i : Int))], []⟩
def topo_Term_2LR (a0 : List XTerm) (i : Nat) : RT :=
  (.ask (decide ((i : Int) < (a0.length : Int)))
    (.need [0 ≤ (i : Int) ∧ (i : Int) < (a0.length : Int)]
      (.need [((a0.getD i default).values).length < 4611686018427387904, ∀ q ∈ ((a0.getD i default).values), q.size < 4611686018427387904]
        (.ask (topo_right_1F ((a0.getD i default).key) ((a0.getD i default).values))
          (.leaf .ret ⟨slots 19 [(4, .int .i64 (i : Int))], []⟩ [])
          (.leaf .normal ⟨slots 19 [(0, .coll ⟨.term, a0⟩), (1, .fn 68 []), (7, .int .i64 (a0.length : Int)), (8, .int .i64 (IntKind.i64.wrap ((i : Int) + (1 : Int))))], []⟩ []))))
    (.leaf (.exit 0) ⟨slots 19 [], []⟩ []))
def topo_Term_2LT (a0 : List XTerm) (i : Nat) : Tree :=
  .ask ((topo_Term_2LF (a0.drop i) i).1) (.leaf .ret ⟨slots 19 [(4, .int .i64 ((topo_Term_2LF (a0.drop i) i).2))], []⟩) (.leaf (.exit 0) ⟨slots 19 [], []⟩)
theorem topo_Term_2L_loop (a0 : List XTerm) (hp0 : a0.length ≤ 4294967296) (hp1 : ∀ q ∈ a0, q.Fine) (hlen : a0.length < 4611686018427387904) (z : { z : Nat // z ≤ a0.length }) (Q : Exit → St → Prop) (h : (topo_Term_2LT a0 z.1).All Q) : Tr Tryd.prog 0 (.loop (loopAt Tryd.f58 0)) (topo_Term_2LS a0 z.1) Q := by
  refine Tr_loopT (kok _ _ _ _ _ _) (E := E_topo_Term_2) (ι := { z : Nat // z ≤ a0.length }) 60 0 (fun _ => noLoops) (fun z => topo_Term_2LS a0 z.1) (fun z => topo_Term_2LT a0 z.1) (fun z => topo_Term_2LR a0 z.1) (fun z => a0.length - z.1) (fun _ => LoopsOk.none) (fun z => by obtain ⟨i, hi⟩ := z; kernel_rfl) (fun z => by obtain ⟨i, hi⟩ := z; kernel_rfl) (fun z => by obtain ⟨i, hi⟩ := z; kernel_rfl) ?_ z Q h
  rintro ⟨i, hi⟩ Q hT
  replace hT : (topo_Term_2LT a0 i).All Q := hT
  replace hi : i ≤ a0.length := hi
  show (topo_Term_2LR a0 i).All _
  unfold topo_Term_2LR
  refine ⟨fun h0 => ?_, fun h0 => ?_⟩
  · have hlt : i < a0.length := by simpa using h0
    have hd := drop_getD hlt
    have hw := wrap_succ (i := i) (by omega)
    refine ⟨need_cons (by omega) (need_nil), ?_⟩
    refine ⟨need_cons (by exact (hp1 _ (gD_mem hlt)).2.1) (need_cons (by exact (hp1 _ (gD_mem hlt)).2.2) (need_nil)), ?_⟩
    refine ⟨fun h1 => ?_, fun h1 => ?_⟩
    · have hF : topo_Term_2LF (a0.drop i) i = (true, (i : Int)) := by rw [hd]; first | exact (cond_t h1 rfl) | simp only [topo_Term_2LF, h0, h1, cond_true, cond_false]
      unfold topo_Term_2LT at hT
      rw [hF] at hT
      exact hT.1 rfl
    · have hF : topo_Term_2LF (a0.drop i) i = topo_Term_2LF (a0.drop (i + 1)) (i + 1) := by rw [hd]; first | exact (cond_f h1 rfl) | simp only [topo_Term_2LF, h0, h1, cond_true, cond_false]
      refine ⟨⟨(i + 1), by show (i + 1) ≤ a0.length; omega⟩, by show a0.length - (i + 1) < a0.length - i; omega, ?_, ?_⟩
      · show _ = topo_Term_2LS a0 (i + 1)
        unfold topo_Term_2LS
        simp only [hw]
      · show (topo_Term_2LT a0 (i + 1)).All Q
        unfold topo_Term_2LT at hT ⊢
        rw [hF] at hT
        exact hT
  · have hge : ¬ i < a0.length := by simpa using h0
    have hd : a0.drop i = [] := List.drop_eq_nil_of_le (by omega)
    have hF : topo_Term_2LF (a0.drop i) i = (false, default) := by rw [hd]; first | exact rfl | simp only [topo_Term_2LF, h0, cond_true, cond_false]
    unfold topo_Term_2LT at hT
    rw [hF] at hT
    exact hT.2 rfl
def topo_Term_2F (a0 : List XTerm) : Int :=
  cond ((topo_Term_2LF a0 0).1)
    ((topo_Term_2LF a0 0).2)
    (-1 : Int)
def topo_Term_2R (a0 : List XTerm) : RT :=
  (.ask ((topo_Term_2LF a0 0).1)
    (.leaf .ret ⟨slots 19 [(4, .int .i64 ((topo_Term_2LF a0 0).2))], []⟩ [])
    (.leaf .ret ⟨slots 19 [(4, .int .i64 (-1))], []⟩ []))
theorem topo_Term_2F_tr (a0 : List XTerm) (hp0 : a0.length ≤ 4294967296) (hp1 : ∀ q ∈ a0, q.Fine) : Tr Tryd.prog 0 (bodyOf Tryd.f58) (fnBegins Tryd.f58 [.coll ⟨.term, a0⟩, .fn 68 []] []) (fnEnds Tryd.prog Tryd.f58 (.int .i64 (topo_Term_2F a0)) []) := by
  refine Tr_tree (kok _ _ _ _ _ _) (E := E_topo_Term_2) (L := (loopsOf [(0, topo_Term_2LS a0 0, [], topo_Term_2LT a0 0)])) 60 9999 (LoopsOk.one (g := loopAt Tryd.f58 0) (b := 0) (by kernel_rfl) (by kernel_rfl) (by kernel_rfl) (by kernel_rfl) (fun Q h => topo_Term_2L_loop a0 hp0 hp1 (by omega) ⟨0, by first | exact Nat.zero_le _ | (show 0 ≤ a0.length; omega) | (show 0 ≤ a0.length; exact ⟨Nat.zero_le _, by assumption⟩) | (show 0 ≤ a0.length; simp)⟩ Q h)) (topo_Term_2R a0) (by kernel_rfl) (by kernel_rfl) (by kernel_rfl) ?_
  unfold topo_Term_2R
  refine ⟨fun h0 => ?_, fun h0 => ?_⟩
  · have hF : topo_Term_2F a0 = ((topo_Term_2LF a0 0).2) := by first | exact (cond_t h0 rfl) | simp only [topo_Term_2F, h0, cond_true, cond_false]
    exact ⟨trivial, .inl (by first | (rw [hF]; kernel_rfl) | kernel_rfl), by first | (rw [hF]; kernel_rfl) | kernel_rfl⟩
  · have hF : topo_Term_2F a0 = (-1 : Int) := by first | exact (cond_f h0 rfl) | simp only [topo_Term_2F, h0, cond_true, cond_false]
    exact ⟨trivial, .inl (by first | (rw [hF]; kernel_rfl) | kernel_rfl), by first | (rw [hF]; kernel_rfl) | kernel_rfl⟩
noncomputable def topo_Term_2_fact : Fact Tryd.prog := factOf 58 Tryd.f58 (by kernel_rfl) rfl (by kernel_rfl) [.c (.coll .term), .c (.fn 68)] [] true (fun t u => .int .i64 (topo_Term_2F t.1)) (fun t u => []) (fun t u => [t.1.length ≤ 4294967296, ∀ q ∈ t.1, q.Fine])
  (fun _ _ _ => rfl) (fun t u => by kernel_rfl) (fun t u => by kernel_rfl) (fun t u h => topo_Term_2F_tr t.1 (h _ List.mem_cons_self) (h _ (List.mem_cons_of_mem _ List.mem_cons_self)))
noncomputable def E_topo_right_2 : Env := envOf (P := Tryd.prog) [] [] [] ckf
def topo_right_2F (a0_0 : ByteArray) (a0_1 : List ByteArray) : ByteArray :=
  a0_0
def topo_right_2R (a0_0 : ByteArray) (a0_1 : List ByteArray) : RT :=
  (.leaf .ret ⟨slots 5 [(2, .str a0_0)], []⟩ [])
theorem topo_right_2F_tr (a0_0 : ByteArray) (a0_1 : List ByteArray)  : Tr Tryd.prog 0 (bodyOf Tryd.f70) (fnBegins Tryd.f70 [.agg [.str a0_0, .coll ⟨.str, a0_1⟩]] []) (fnEnds Tryd.prog Tryd.f70 (.str (topo_right_2F a0_0 a0_1)) []) := by
  refine Tr_tree (kok _ _ _ _ _ _) (E := E_topo_right_2) (L := noLoops) 60 9999 LoopsOk.none (topo_right_2R a0_0 a0_1) (by kernel_rfl) (by kernel_rfl) (by kernel_rfl) ?_
  unfold topo_right_2R
  exact ⟨trivial, .inl (by kernel_rfl), by kernel_rfl⟩
noncomputable def topo_right_2_fact : Fact Tryd.prog := factOf 70 Tryd.f70 (by kernel_rfl) rfl (by kernel_rfl) [.agg [.str, .coll .str]] [] true (fun t u => .str (topo_right_2F t.1.1 t.1.2.1)) (fun t u => []) (fun t u => [])
  (fun _ _ _ => rfl) (fun t u => by kernel_rfl) (fun t u => by kernel_rfl) (fun t u h => topo_right_2F_tr t.1.1 t.1.2.1 )
noncomputable def E_topo_Term_3 : Env := envOf (P := Tryd.prog) [topo_right_2_fact] [] [] ckf
def topo_Term_3LF  : List XTerm → List ByteArray → List ByteArray
  | [], v3 => v3
  | o :: r, v3 => topo_Term_3LF r (v3 ++ [topo_right_2F (o.key) (o.values)])
def topo_Term_3LS (a0 : List XTerm) (i : Nat) (v3 : List ByteArray) : St :=
  ⟨slots 25 [(1, .fn 70 []), (5, .vec 0), (11, .coll ⟨.term, a0⟩), (12, .int .i64 (a0.length : Int)), (13, .int .i64 (i : Int))], [.vec true ⟨.str, v3⟩]⟩
def topo_Term_3LR (a0 : List XTerm) (i : Nat) (v3 : List ByteArray) : RT :=
  (.ask (decide ((i : Int) < (a0.length : Int)))
    (.need [0 ≤ (i : Int) ∧ (i : Int) < (a0.length : Int)]
      (.need [(v3.length + [topo_right_2F ((a0.getD i default).key) ((a0.getD i default).values)].length) * 16 ≤ bytesLim ∧ v3.length + [topo_right_2F ((a0.getD i default).key) ((a0.getD i default).values)].length ≤ maxLen]
        (.leaf .normal ⟨slots 25 [(1, .fn 70 []), (5, .vec 0), (11, .coll ⟨.term, a0⟩), (12, .int .i64 (a0.length : Int)), (13, .int .i64 (IntKind.i64.wrap ((i : Int) + (1 : Int))))], [.vec true ⟨.str, (v3 ++ [topo_right_2F ((a0.getD i default).key) ((a0.getD i default).values)])⟩]⟩ [3])))
    (.leaf (.exit 0) ⟨slots 25 [(5, .vec 0)], [.vec true ⟨.str, v3⟩]⟩ []))
def topo_Term_3LT (a0 : List XTerm) (i : Nat) (v3 : List ByteArray) : Tree :=
  .leaf (.exit 0) ⟨slots 25 [(5, .vec 0)], [.vec true ⟨.str, topo_Term_3LF (a0.drop i) v3⟩]⟩
theorem topo_Term_3L_loop (a0 : List XTerm) (hp0 : a0.length ≤ 4294967296) (hlen : a0.length < 4611686018427387904) (z : { z : Nat × List ByteArray // z.1 ≤ a0.length ∧ z.2.length ≤ z.1 }) (Q : Exit → St → Prop) (h : (topo_Term_3LT a0 z.1.1 z.1.2).All Q) : Tr Tryd.prog 0 (.loop (loopAt Tryd.f52 0)) (topo_Term_3LS a0 z.1.1 z.1.2) Q := by
  refine Tr_loopT (kok _ _ _ _ _ _) (E := E_topo_Term_3) (ι := { z : Nat × List ByteArray // z.1 ≤ a0.length ∧ z.2.length ≤ z.1 }) 60 0 (fun _ => noLoops) (fun z => topo_Term_3LS a0 z.1.1 z.1.2) (fun z => topo_Term_3LT a0 z.1.1 z.1.2) (fun z => topo_Term_3LR a0 z.1.1 z.1.2) (fun z => a0.length - z.1.1) (fun _ => LoopsOk.none) (fun z => by obtain ⟨⟨i, v3⟩, hi⟩ := z; kernel_rfl) (fun z => by obtain ⟨⟨i, v3⟩, hi⟩ := z; kernel_rfl) (fun z => by obtain ⟨⟨i, v3⟩, hi⟩ := z; kernel_rfl) ?_ z Q h
  rintro ⟨⟨i, v3⟩, hi⟩ Q hT
  replace hT : (topo_Term_3LT a0 i v3).All Q := hT
  replace hi : i ≤ a0.length ∧ v3.length ≤ i := hi
  show (topo_Term_3LR a0 i v3).All _
  unfold topo_Term_3LR
  refine ⟨fun h0 => ?_, fun h0 => ?_⟩
  · have hlt : i < a0.length := by simpa using h0
    have hd := drop_getD hlt
    have hw := wrap_succ (i := i) (by omega)
    refine ⟨need_cons (by first | assumption | omega | (intro; omega) | (simp only [decide_eq_true_eq, decide_eq_false_iff_not, Bool.cond_false_right, Bool.cond_true_right, Bool.cond_true_left, Bool.cond_false_left, Bool.and_eq_true, Bool.or_eq_true, Bool.not_eq_true', bytesLim, maxLen, List.length_cons, List.length_nil, List.length_append, byteSize_lit] at *; omega) | (intro; simp only [decide_eq_true_eq, decide_eq_false_iff_not, Bool.cond_false_right, Bool.cond_true_right, Bool.cond_true_left, Bool.cond_false_left, Bool.and_eq_true, Bool.or_eq_true, Bool.not_eq_true', bytesLim, maxLen, List.length_cons, List.length_nil, List.length_append, byteSize_lit] at *; omega)) (need_nil), ?_⟩
    refine ⟨need_cons (by unfold bytesLim maxLen; simp only [List.length_cons, List.length_nil]; omega) (need_nil), ?_⟩
    have hF : topo_Term_3LF (a0.drop i) v3 = topo_Term_3LF (a0.drop (i + 1)) (v3 ++ [topo_right_2F ((a0.getD i default).key) ((a0.getD i default).values)]) := by rw [hd]; first | exact rfl | simp only [topo_Term_3LF, h0, cond_true, cond_false]
    refine ⟨⟨((i + 1), (v3 ++ [topo_right_2F ((a0.getD i default).key) ((a0.getD i default).values)])), by (first | dsimp only | skip); constructor <;> (try simp only [List.length_append, List.length_cons, List.length_nil]) <;> omega⟩, by show a0.length - (i + 1) < a0.length - i; omega, ?_, ?_⟩
    · show _ = topo_Term_3LS a0 (i + 1) (v3 ++ [topo_right_2F ((a0.getD i default).key) ((a0.getD i default).values)])
      unfold topo_Term_3LS
      simp only [hw]
    · show (topo_Term_3LT a0 (i + 1) (v3 ++ [topo_right_2F ((a0.getD i default).key) ((a0.getD i default).values)])).All Q
      unfold topo_Term_3LT at hT ⊢
      rw [hF] at hT
      exact hT
  · have hge : ¬ i < a0.length := by simpa using h0
    have hd : a0.drop i = [] := List.drop_eq_nil_of_le (by omega)
    have hF : topo_Term_3LF (a0.drop i) v3 = v3 := by rw [hd]; first | exact rfl | simp only [topo_Term_3LF, h0, cond_true, cond_false]
    unfold topo_Term_3LT at hT
    rw [hF] at hT
    exact hT
def topo_Term_3F (a0 : List XTerm) : List ByteArray :=
  topo_Term_3LF a0 []
def topo_Term_3R (a0 : List XTerm) : RT :=
  (.need [0 ≤ (0 : Int) ∧ (0 : Int) ≤ (a0.length : Int) ∧ (a0.length : Int) * 16 ≤ 281474976710656 ∧ (a0.length : Int) ≤ 9223372036854775807]
    (.leaf .ret ⟨slots 25 [(4, .vec 0)], [.vec true ⟨.str, topo_Term_3LF a0 []⟩]⟩ []))
theorem topo_Term_3F_tr (a0 : List XTerm) (hp0 : a0.length ≤ 4294967296) : Tr Tryd.prog 0 (bodyOf Tryd.f52) (fnBegins Tryd.f52 [.coll ⟨.term, a0⟩, .fn 70 []] []) (fnEnds Tryd.prog Tryd.f52 (.vec 0) [.vec true ⟨.str, topo_Term_3F a0⟩]) := by
  refine Tr_tree (kok _ _ _ _ _ _) (E := E_topo_Term_3) (L := (loopsOf [(0, topo_Term_3LS a0 0 [], [1], topo_Term_3LT a0 0 [])])) 60 9999 (LoopsOk.one (g := loopAt Tryd.f52 0) (b := 0) (by kernel_rfl) (by kernel_rfl) (by kernel_rfl) (by kernel_rfl) (fun Q h => topo_Term_3L_loop a0 hp0 (by omega) ⟨(0, []), ⟨Nat.zero_le _, Nat.le_refl _⟩⟩ Q h)) (topo_Term_3R a0) (by kernel_rfl) (by kernel_rfl) (by kernel_rfl) ?_
  unfold topo_Term_3R
  refine ⟨need_cons (by omega) (need_nil), ?_⟩
  exact ⟨trivial, .inl (by kernel_rfl), by kernel_rfl⟩
noncomputable def topo_Term_3_fact : Fact Tryd.prog := factOf 52 Tryd.f52 (by kernel_rfl) rfl (by kernel_rfl) [.c (.coll .term), .c (.fn 70)] [] false (fun t u => .vec 0) (fun t u => [.vec true ⟨.str, topo_Term_3F t.1⟩]) (fun t u => [t.1.length ≤ 4294967296])
  (nofun) (fun t u => by kernel_rfl) (fun t u => by kernel_rfl) (fun t u h => topo_Term_3F_tr t.1 (h _ List.mem_cons_self))
noncomputable def E_topo_right : Env := envOf (P := Tryd.prog) [topo_Term_2_fact, topo_Term_3_fact, topo_rising_fact] [] [] ckf
theorem topo_Term_3LF_eq : ∀ (l : List XTerm) (v : List ByteArray), topo_Term_3LF l v = v ++ l.map XTerm.key
  | [], v => by unfold topo_Term_3LF; simp
  | o :: r, v => by
    unfold topo_Term_3LF
    rw [topo_Term_3LF_eq r]
    simp [topo_right_2F]
theorem keysT_eq (l : List XTerm) : topo_Term_3F l = l.map XTerm.key := by
  unfold topo_Term_3F
  rw [topo_Term_3LF_eq]
  rfl
theorem keysT_fine {l : List XTerm} (h : ∀ q ∈ l, q.Fine) : ∀ q ∈ topo_Term_3F l, q.size < 4611686018427387904 := by
  rw [keysT_eq]
  intro q hq
  obtain ⟨x, hx, rfl⟩ := List.mem_map.1 hq
  exact (h x hx).1
def topo_rightF (a0 : List XTerm) : Bool :=
  cond (cond (decide ((topo_Term_2F a0) < (0 : Int))) (decide ((a0.length : Int) ≤ (8 : Int))) false)
    (topo_risingF (topo_Term_3F a0))
    false
def topo_rightR (a0 : List XTerm) : RT :=
  (.need [a0.length ≤ 4294967296, ∀ q ∈ a0, q.Fine]
    (.ask (cond (decide ((topo_Term_2F a0) < (0 : Int))) (decide ((a0.length : Int) ≤ (8 : Int))) false)
      (.need [a0.length ≤ 4294967296]
        (.need [(topo_Term_3F a0).length < 4611686018427387904, ∀ q ∈ (topo_Term_3F a0), q.size < 4611686018427387904]
          (.leaf .ret ⟨slots 18 [(2, .bool (topo_risingF (topo_Term_3F a0)))], []⟩ [])))
      (.leaf .ret ⟨slots 18 [(2, .bool false)], []⟩ [])))
theorem topo_rightF_tr (a0 : List XTerm) (hp0 : a0.length ≤ 4294967296) (hp1 : ∀ q ∈ a0, q.Fine) : Tr Tryd.prog 0 (bodyOf Tryd.f37) (fnBegins Tryd.f37 [.coll ⟨.term, a0⟩] []) (fnEnds Tryd.prog Tryd.f37 (.bool (topo_rightF a0)) []) := by
  refine Tr_tree (kok _ _ _ _ _ _) (E := E_topo_right) (L := noLoops) 60 9999 LoopsOk.none (topo_rightR a0) (by kernel_rfl) (by kernel_rfl) (by kernel_rfl) ?_
  unfold topo_rightR
  refine ⟨need_cons (by (try intro _); omega) (need_cons (by assumption) (need_nil)), ?_⟩
  refine ⟨fun h0 => ?_, fun h0 => ?_⟩
  · refine ⟨need_cons (by (try intro _); omega) (need_nil), ?_⟩
    refine ⟨need_cons (by (try intro _); rw [keysT_eq, List.length_map]; omega) (need_cons (by first | exact keysT_fine hp1 | (intro _; exact keysT_fine hp1)) (need_nil)), ?_⟩
    have hF : topo_rightF a0 = (topo_risingF (topo_Term_3F a0)) := by first | exact (cond_t h0 rfl) | simp only [topo_rightF, h0, cond_true, cond_false]
    exact ⟨trivial, .inl (by first | (rw [hF]; kernel_rfl) | kernel_rfl), by first | (rw [hF]; kernel_rfl) | kernel_rfl⟩
  · have hF : topo_rightF a0 = false := by first | exact (cond_f h0 rfl) | simp only [topo_rightF, h0, cond_true, cond_false]
    exact ⟨trivial, .inl (by first | (rw [hF]; kernel_rfl) | kernel_rfl), by first | (rw [hF]; kernel_rfl) | kernel_rfl⟩
noncomputable def topo_right_fact : Fact Tryd.prog := factOf 37 Tryd.f37 (by kernel_rfl) rfl (by kernel_rfl) [.c (.coll .term)] [] true (fun t u => .bool (topo_rightF t.1)) (fun t u => []) (fun t u => [t.1.length ≤ 4294967296, ∀ q ∈ t.1, q.Fine])
  (fun _ _ _ => rfl) (fun t u => by kernel_rfl) (fun t u => by kernel_rfl) (fun t u h => topo_rightF_tr t.1 (h _ List.mem_cons_self) (h _ (List.mem_cons_of_mem _ List.mem_cons_self)))
noncomputable def E_r02_RightLabels : Env := envOf (P := Tryd.prog) [r02_Word_fact] [] [] ckf
def r02_RightLabelsLF (a0 : List XLabel) : List XLabel → Nat → Bool
  | [], i => false
  | o :: r, i => cond (cond (cond (!(r02_WordF (o.key))) true (!(r02_WordF (o.value)))) true (cond (decide ((i : Int) > (0 : Int))) (strLess (o.key) ((a0.getD ((IntKind.i64.wrap ((i : Int) - (1 : Int))).toNat) default).key) || decide ((o.key) = ((a0.getD ((IntKind.i64.wrap ((i : Int) - (1 : Int))).toNat) default).key))) false))
    true
    (r02_RightLabelsLF a0 r (i + 1))
def r02_RightLabelsLS (a0 : List XLabel) (i : Nat) : St :=
  ⟨slots 47 [(0, .coll ⟨.label, a0⟩), (3, .int .i64 (i : Int))], []⟩
def r02_RightLabelsLR (a0 : List XLabel) (i : Nat) : RT :=
  (.ask (decide ((i : Int) < (a0.length : Int)))
    (.need [0 ≤ (i : Int) ∧ (i : Int) < (a0.length : Int), ((a0.getD i default).key).size < 4611686018427387904, ((!(r02_WordF ((a0.getD i default).key))) = false) → (0 ≤ (i : Int) ∧ (i : Int) < (a0.length : Int)), ((!(r02_WordF ((a0.getD i default).key))) = false) → (((a0.getD i default).value).size < 4611686018427387904), (((cond (!(r02_WordF ((a0.getD i default).key))) true (!(r02_WordF ((a0.getD i default).value)))) = false) ∧ (decide ((i : Int) > (0 : Int))) = true) → (0 ≤ (i : Int) ∧ (i : Int) < (a0.length : Int)), (((cond (!(r02_WordF ((a0.getD i default).key))) true (!(r02_WordF ((a0.getD i default).value)))) = false) ∧ (decide ((i : Int) > (0 : Int))) = true) → (0 ≤ (IntKind.i64.wrap ((i : Int) - (1 : Int))) ∧ (IntKind.i64.wrap ((i : Int) - (1 : Int))) < (a0.length : Int))]
      (.ask (cond (cond (!(r02_WordF ((a0.getD i default).key))) true (!(r02_WordF ((a0.getD i default).value)))) true (cond (decide ((i : Int) > (0 : Int))) (strLess ((a0.getD i default).key) ((a0.getD ((IntKind.i64.wrap ((i : Int) - (1 : Int))).toNat) default).key) || decide (((a0.getD i default).key) = ((a0.getD ((IntKind.i64.wrap ((i : Int) - (1 : Int))).toNat) default).key))) false))
        (.leaf .ret ⟨slots 47 [(2, .bool false)], []⟩ [])
        (.leaf .normal ⟨slots 47 [(0, .coll ⟨.label, a0⟩), (3, .int .i64 (IntKind.i64.wrap ((i : Int) + (1 : Int))))], []⟩ [])))
    (.leaf (.exit 0) ⟨slots 47 [(0, .coll ⟨.label, a0⟩)], []⟩ []))
def r02_RightLabelsLT (a0 : List XLabel) (i : Nat) : Tree :=
  .ask (r02_RightLabelsLF a0 (a0.drop i) i) (.leaf .ret ⟨slots 47 [(2, .bool false)], []⟩) (.leaf (.exit 0) ⟨slots 47 [(0, .coll ⟨.label, a0⟩)], []⟩)
theorem r02_RightLabelsL_loop (a0 : List XLabel) (hp0 : a0.length ≤ 4294967296) (hp1 : ∀ q ∈ a0, q.Fine) (hlen : a0.length < 4611686018427387904) (z : { z : Nat // z ≤ a0.length }) (Q : Exit → St → Prop) (h : (r02_RightLabelsLT a0 z.1).All Q) : Tr Tryd.prog 0 (.loop (loopAt Tryd.f56 0)) (r02_RightLabelsLS a0 z.1) Q := by
  refine Tr_loopT (kok _ _ _ _ _ _) (E := E_r02_RightLabels) (ι := { z : Nat // z ≤ a0.length }) 60 0 (fun _ => noLoops) (fun z => r02_RightLabelsLS a0 z.1) (fun z => r02_RightLabelsLT a0 z.1) (fun z => r02_RightLabelsLR a0 z.1) (fun z => a0.length - z.1) (fun _ => LoopsOk.none) (fun z => by obtain ⟨i, hi⟩ := z; kernel_rfl) (fun z => by obtain ⟨i, hi⟩ := z; kernel_rfl) (fun z => by obtain ⟨i, hi⟩ := z; kernel_rfl) ?_ z Q h
  rintro ⟨i, hi⟩ Q hT
  replace hT : (r02_RightLabelsLT a0 i).All Q := hT
  replace hi : i ≤ a0.length := hi
  show (r02_RightLabelsLR a0 i).All _
  unfold r02_RightLabelsLR
  refine ⟨fun h0 => ?_, fun h0 => ?_⟩
  · have hlt : i < a0.length := by simpa using h0
    have hd := drop_getD hlt
    have hw := wrap_succ (i := i) (by omega)
    refine ⟨need_cons (by (try refine fun (_ : _ = _) => ?_); (try refine fun (_ : _ ∧ _) => ?_); constructor <;> omega) (need_cons (by (try refine fun (_ : _ = _) => ?_); (try refine fun (_ : _ ∧ _) => ?_); exact (hp1 _ (gD_mem hlt)).1) (need_cons (by (try refine fun (_ : _ = _) => ?_); (try refine fun (_ : _ ∧ _) => ?_); constructor <;> omega) (need_cons (by (try refine fun (_ : _ = _) => ?_); (try refine fun (_ : _ ∧ _) => ?_); exact (hp1 _ (gD_mem hlt)).2) (need_cons (by (try refine fun (_ : _ = _) => ?_); (try refine fun (_ : _ ∧ _) => ?_); constructor <;> omega) (need_cons (by intro hg; (first | (obtain ⟨_, hg⟩ := hg; simp only [decide_eq_true_eq] at hg; rw [IntKind.wrap_i64]; omega) | (simp only [decide_eq_true_eq] at hg; rw [IntKind.wrap_i64]; omega))) (need_nil)))))), ?_⟩
    refine ⟨fun h1 => ?_, fun h1 => ?_⟩
    · have hF : r02_RightLabelsLF a0 (a0.drop i) i = true := by rw [hd]; first | exact (cond_t h1 rfl) | simp only [r02_RightLabelsLF, h0, h1, cond_true, cond_false]
      unfold r02_RightLabelsLT at hT
      rw [hF] at hT
      exact hT.1 rfl
    · have hF : r02_RightLabelsLF a0 (a0.drop i) i = r02_RightLabelsLF a0 (a0.drop (i + 1)) (i + 1) := by rw [hd]; first | exact (cond_f h1 rfl) | simp only [r02_RightLabelsLF, h0, h1, cond_true, cond_false]
      refine ⟨⟨(i + 1), by show (i + 1) ≤ a0.length; omega⟩, by show a0.length - (i + 1) < a0.length - i; omega, ?_, ?_⟩
      · show _ = r02_RightLabelsLS a0 (i + 1)
        unfold r02_RightLabelsLS
        simp only [hw]
      · show (r02_RightLabelsLT a0 (i + 1)).All Q
        unfold r02_RightLabelsLT at hT ⊢
        rw [hF] at hT
        exact hT
  · have hge : ¬ i < a0.length := by simpa using h0
    have hd : a0.drop i = [] := List.drop_eq_nil_of_le (by omega)
    have hF : r02_RightLabelsLF a0 (a0.drop i) i = false := by rw [hd]; first | exact rfl | simp only [r02_RightLabelsLF, h0, cond_true, cond_false]
    unfold r02_RightLabelsLT at hT
    rw [hF] at hT
    exact hT.2 rfl
def r02_RightLabelsF (a0 : List XLabel) : Bool :=
  cond (r02_RightLabelsLF a0 a0 0)
    false
    (decide ((a0.length : Int) ≤ (8 : Int)))
def r02_RightLabelsR (a0 : List XLabel) : RT :=
  (.ask (r02_RightLabelsLF a0 a0 0)
    (.leaf .ret ⟨slots 47 [(2, .bool false)], []⟩ [])
    (.leaf .ret ⟨slots 47 [(2, .bool (decide ((a0.length : Int) ≤ (8 : Int))))], []⟩ []))
theorem r02_RightLabelsF_tr (a0 : List XLabel) (hp0 : a0.length ≤ 4294967296) (hp1 : ∀ q ∈ a0, q.Fine) : Tr Tryd.prog 0 (bodyOf Tryd.f56) (fnBegins Tryd.f56 [.coll ⟨.label, a0⟩] []) (fnEnds Tryd.prog Tryd.f56 (.bool (r02_RightLabelsF a0)) []) := by
  refine Tr_tree (kok _ _ _ _ _ _) (E := E_r02_RightLabels) (L := (loopsOf [(0, r02_RightLabelsLS a0 0, [], r02_RightLabelsLT a0 0)])) 60 9999 (LoopsOk.one (g := loopAt Tryd.f56 0) (b := 0) (by kernel_rfl) (by kernel_rfl) (by kernel_rfl) (by kernel_rfl) (fun Q h => r02_RightLabelsL_loop a0 hp0 hp1 (by omega) ⟨0, by first | exact Nat.zero_le _ | (show 0 ≤ a0.length; omega) | (show 0 ≤ a0.length; exact ⟨Nat.zero_le _, by assumption⟩) | (show 0 ≤ a0.length; simp)⟩ Q h)) (r02_RightLabelsR a0) (by kernel_rfl) (by kernel_rfl) (by kernel_rfl) ?_
  unfold r02_RightLabelsR
  refine ⟨fun h0 => ?_, fun h0 => ?_⟩
  · have hF : r02_RightLabelsF a0 = false := by first | exact (cond_t h0 rfl) | simp only [r02_RightLabelsF, h0, cond_true, cond_false]
    exact ⟨trivial, .inl (by first | (rw [hF]; kernel_rfl) | kernel_rfl), by first | (rw [hF]; kernel_rfl) | kernel_rfl⟩
  · have hF : r02_RightLabelsF a0 = (decide ((a0.length : Int) ≤ (8 : Int))) := by first | exact (cond_f h0 rfl) | simp only [r02_RightLabelsF, h0, cond_true, cond_false]
    exact ⟨trivial, .inl (by first | (rw [hF]; kernel_rfl) | kernel_rfl), by first | (rw [hF]; kernel_rfl) | kernel_rfl⟩
noncomputable def r02_RightLabels_fact : Fact Tryd.prog := factOf 56 Tryd.f56 (by kernel_rfl) rfl (by kernel_rfl) [.c (.coll .label)] [] true (fun t u => .bool (r02_RightLabelsF t.1)) (fun t u => []) (fun t u => [t.1.length ≤ 4294967296, ∀ q ∈ t.1, q.Fine])
  (fun _ _ _ => rfl) (fun t u => by kernel_rfl) (fun t u => by kernel_rfl) (fun t u h => r02_RightLabelsF_tr t.1 (h _ List.mem_cons_self) (h _ (List.mem_cons_of_mem _ List.mem_cons_self)))
noncomputable def E_r02_RightTerms : Env := envOf (P := Tryd.prog) [r02_Word_fact] [] [] ckf
def r02_RightTermsL1F (a0 : List XTerm) (i : Nat) : List ByteArray → Nat → Bool
  | [], i1 => false
  | o1 :: r, i1 => cond (cond (!(r02_WordF o1)) true (cond (decide ((i1 : Int) > (0 : Int))) (strLess o1 (((a0.getD i default).values).getD ((IntKind.i64.wrap ((i1 : Int) - (1 : Int))).toNat) default) || decide (o1 = (((a0.getD i default).values).getD ((IntKind.i64.wrap ((i1 : Int) - (1 : Int))).toNat) default))) false))
    true
    (r02_RightTermsL1F a0 i r (i1 + 1))
def r02_RightTermsL1S (a0 : List XTerm) (i : Nat) (i1 : Nat) : St :=
  ⟨slots 83 [(0, .coll ⟨.term, a0⟩), (3, .int .i64 (i : Int)), (4, .coll ⟨.str, (a0.getD i default).values⟩), (5, .int .i64 (i1 : Int))], []⟩
def r02_RightTermsL1R (a0 : List XTerm) (i : Nat) (i1 : Nat) : RT :=
  (.ask (decide ((i1 : Int) < (((a0.getD i default).values).length : Int)))
    (.need [0 ≤ (i1 : Int) ∧ (i1 : Int) < (((a0.getD i default).values).length : Int), (((a0.getD i default).values).getD i1 default).size < 4611686018427387904, (((!(r02_WordF (((a0.getD i default).values).getD i1 default))) = false) ∧ (decide ((i1 : Int) > (0 : Int))) = true) → (0 ≤ (i1 : Int) ∧ (i1 : Int) < (((a0.getD i default).values).length : Int)), (((!(r02_WordF (((a0.getD i default).values).getD i1 default))) = false) ∧ (decide ((i1 : Int) > (0 : Int))) = true) → (0 ≤ (IntKind.i64.wrap ((i1 : Int) - (1 : Int))) ∧ (IntKind.i64.wrap ((i1 : Int) - (1 : Int))) < (((a0.getD i default).values).length : Int))]
      (.ask (cond (!(r02_WordF (((a0.getD i default).values).getD i1 default))) true (cond (decide ((i1 : Int) > (0 : Int))) (strLess (((a0.getD i default).values).getD i1 default) (((a0.getD i default).values).getD ((IntKind.i64.wrap ((i1 : Int) - (1 : Int))).toNat) default) || decide ((((a0.getD i default).values).getD i1 default) = (((a0.getD i default).values).getD ((IntKind.i64.wrap ((i1 : Int) - (1 : Int))).toNat) default))) false))
        (.leaf .ret ⟨slots 83 [(2, .bool false)], []⟩ [])
        (.leaf .normal ⟨slots 83 [(0, .coll ⟨.term, a0⟩), (3, .int .i64 (i : Int)), (4, .coll ⟨.str, (a0.getD i default).values⟩), (5, .int .i64 (IntKind.i64.wrap ((i1 : Int) + (1 : Int))))], []⟩ [])))
    (.leaf (.exit 2) ⟨slots 83 [(0, .coll ⟨.term, a0⟩), (3, .int .i64 (i : Int))], []⟩ []))
def r02_RightTermsL1T (a0 : List XTerm) (i : Nat) (i1 : Nat) : Tree :=
  .ask (r02_RightTermsL1F a0 i (((a0.getD i default).values).drop i1) i1) (.leaf .ret ⟨slots 83 [(2, .bool false)], []⟩) (.leaf (.exit 2) ⟨slots 83 [(0, .coll ⟨.term, a0⟩), (3, .int .i64 (i : Int))], []⟩)
theorem r02_RightTermsL1_loop (a0 : List XTerm) (i : Nat) (hp0 : a0.length ≤ 4294967296) (hp1 : ∀ q ∈ a0, q.Fine) (hlen : ((a0.getD i default).values).length < 4611686018427387904) (hn0 : 0 ≤ (i : Int) ∧ (i : Int) < (a0.length : Int)) (z : { z : Nat // z ≤ ((a0.getD i default).values).length }) (Q : Exit → St → Prop) (h : (r02_RightTermsL1T a0 i z.1).All Q) : Tr Tryd.prog 0 (.loop (loopSub (loopAt Tryd.f39 0) 0 0)) (r02_RightTermsL1S a0 i z.1) Q := by
  refine Tr_loopT (kok _ _ _ _ _ _) (E := E_r02_RightTerms) (ι := { z : Nat // z ≤ ((a0.getD i default).values).length }) 60 2 (fun _ => noLoops) (fun z => r02_RightTermsL1S a0 i z.1) (fun z => r02_RightTermsL1T a0 i z.1) (fun z => r02_RightTermsL1R a0 i z.1) (fun z => ((a0.getD i default).values).length - z.1) (fun _ => LoopsOk.none) (fun z => by obtain ⟨i1, hi⟩ := z; kernel_rfl) (fun z => by obtain ⟨i1, hi⟩ := z; kernel_rfl) (fun z => by obtain ⟨i1, hi⟩ := z; kernel_rfl) ?_ z Q h
  rintro ⟨i1, hi⟩ Q hT
  replace hT : (r02_RightTermsL1T a0 i i1).All Q := hT
  replace hi : i1 ≤ ((a0.getD i default).values).length := hi
  show (r02_RightTermsL1R a0 i i1).All _
  unfold r02_RightTermsL1R
  refine ⟨fun h0 => ?_, fun h0 => ?_⟩
  · have hlt : i1 < ((a0.getD i default).values).length := by simpa using h0
    have hd := drop_getD hlt
    have hw := wrap_succ (i := i1) (by omega)
    refine ⟨need_cons (by (try refine fun (_ : _ = _) => ?_); (try refine fun (_ : _ ∧ _) => ?_); constructor <;> omega) (need_cons (by (try refine fun (_ : _ = _) => ?_); (try refine fun (_ : _ ∧ _) => ?_); exact (hp1 _ (gD_mem (by omega))).2.2 _ (gD_mem hlt)) (need_cons (by (try refine fun (_ : _ = _) => ?_); (try refine fun (_ : _ ∧ _) => ?_); constructor <;> omega) (need_cons (by intro hg; (first | (obtain ⟨_, hg⟩ := hg; simp only [decide_eq_true_eq] at hg; rw [IntKind.wrap_i64]; omega) | (simp only [decide_eq_true_eq] at hg; rw [IntKind.wrap_i64]; omega))) (need_nil)))), ?_⟩
    refine ⟨fun h1 => ?_, fun h1 => ?_⟩
    · have hF : r02_RightTermsL1F a0 i (((a0.getD i default).values).drop i1) i1 = true := by rw [hd]; first | exact (cond_t h1 rfl) | simp only [r02_RightTermsL1F, h0, h1, cond_true, cond_false]
      unfold r02_RightTermsL1T at hT
      rw [hF] at hT
      exact hT.1 rfl
    · have hF : r02_RightTermsL1F a0 i (((a0.getD i default).values).drop i1) i1 = r02_RightTermsL1F a0 i (((a0.getD i default).values).drop (i1 + 1)) (i1 + 1) := by rw [hd]; first | exact (cond_f h1 rfl) | simp only [r02_RightTermsL1F, h0, h1, cond_true, cond_false]
      refine ⟨⟨(i1 + 1), by show (i1 + 1) ≤ ((a0.getD i default).values).length; omega⟩, by show ((a0.getD i default).values).length - (i1 + 1) < ((a0.getD i default).values).length - i1; omega, ?_, ?_⟩
      · show _ = r02_RightTermsL1S a0 i (i1 + 1)
        unfold r02_RightTermsL1S
        simp only [hw]
      · show (r02_RightTermsL1T a0 i (i1 + 1)).All Q
        unfold r02_RightTermsL1T at hT ⊢
        rw [hF] at hT
        exact hT
  · have hge : ¬ i1 < ((a0.getD i default).values).length := by simpa using h0
    have hd : ((a0.getD i default).values).drop i1 = [] := List.drop_eq_nil_of_le (by omega)
    have hF : r02_RightTermsL1F a0 i (((a0.getD i default).values).drop i1) i1 = false := by rw [hd]; first | exact rfl | simp only [r02_RightTermsL1F, h0, cond_true, cond_false]
    unfold r02_RightTermsL1T at hT
    rw [hF] at hT
    exact hT.2 rfl
def r02_RightTermsLF (a0 : List XTerm) : List XTerm → Nat → Bool
  | [], i => false
  | o :: r, i => cond (cond (cond (cond (!(r02_WordF (o.key))) true (cond (decide ((i : Int) > (0 : Int))) (strLess (o.key) ((a0.getD ((IntKind.i64.wrap ((i : Int) - (1 : Int))).toNat) default).key) || decide ((o.key) = ((a0.getD ((IntKind.i64.wrap ((i : Int) - (1 : Int))).toNat) default).key))) false)) true (decide (((o.values).length : Int) < (1 : Int)))) true (decide (((o.values).length : Int) > (8 : Int))))
    true
    (cond (r02_RightTermsL1F a0 i (o.values) 0)
      true
      (r02_RightTermsLF a0 r (i + 1)))
def r02_RightTermsLS (a0 : List XTerm) (i : Nat) : St :=
  ⟨slots 83 [(0, .coll ⟨.term, a0⟩), (3, .int .i64 (i : Int))], []⟩
def r02_RightTermsLR (a0 : List XTerm) (i : Nat) : RT :=
  (.ask (decide ((i : Int) < (a0.length : Int)))
    (.need [0 ≤ (i : Int) ∧ (i : Int) < (a0.length : Int)]
      (.need [0 ≤ (i : Int) ∧ (i : Int) < (a0.length : Int), ((a0.getD i default).key).size < 4611686018427387904, (((!(r02_WordF ((a0.getD i default).key))) = false) ∧ (decide ((i : Int) > (0 : Int))) = true) → (0 ≤ (i : Int) ∧ (i : Int) < (a0.length : Int)), (((!(r02_WordF ((a0.getD i default).key))) = false) ∧ (decide ((i : Int) > (0 : Int))) = true) → (0 ≤ (IntKind.i64.wrap ((i : Int) - (1 : Int))) ∧ (IntKind.i64.wrap ((i : Int) - (1 : Int))) < (a0.length : Int))]
        (.ask (cond (cond (cond (!(r02_WordF ((a0.getD i default).key))) true (cond (decide ((i : Int) > (0 : Int))) (strLess ((a0.getD i default).key) ((a0.getD ((IntKind.i64.wrap ((i : Int) - (1 : Int))).toNat) default).key) || decide (((a0.getD i default).key) = ((a0.getD ((IntKind.i64.wrap ((i : Int) - (1 : Int))).toNat) default).key))) false)) true (decide ((((a0.getD i default).values).length : Int) < (1 : Int)))) true (decide ((((a0.getD i default).values).length : Int) > (8 : Int))))
          (.leaf .ret ⟨slots 83 [(2, .bool false)], []⟩ [])
          (.need [0 ≤ (i : Int) ∧ (i : Int) < (a0.length : Int), ((a0.getD i default).values).length < 4611686018427387904, ((a0.getD i default).values).length < 4611686018427387904]
            (.ask (r02_RightTermsL1F a0 i ((a0.getD i default).values) 0)
              (.leaf .ret ⟨slots 83 [(2, .bool false)], []⟩ [])
              (.leaf .normal ⟨slots 83 [(0, .coll ⟨.term, a0⟩), (3, .int .i64 (IntKind.i64.wrap ((i : Int) + (1 : Int))))], []⟩ []))))))
    (.leaf (.exit 0) ⟨slots 83 [(0, .coll ⟨.term, a0⟩)], []⟩ []))
def r02_RightTermsLT (a0 : List XTerm) (i : Nat) : Tree :=
  .ask (r02_RightTermsLF a0 (a0.drop i) i) (.leaf .ret ⟨slots 83 [(2, .bool false)], []⟩) (.leaf (.exit 0) ⟨slots 83 [(0, .coll ⟨.term, a0⟩)], []⟩)
theorem r02_RightTermsL_loop (a0 : List XTerm) (hp0 : a0.length ≤ 4294967296) (hp1 : ∀ q ∈ a0, q.Fine) (hlen : a0.length < 4611686018427387904) (z : { z : Nat // z ≤ a0.length }) (Q : Exit → St → Prop) (h : (r02_RightTermsLT a0 z.1).All Q) : Tr Tryd.prog 0 (.loop (loopAt Tryd.f39 0)) (r02_RightTermsLS a0 z.1) Q := by
  refine Tr_loopT (kok _ _ _ _ _ _) (E := E_r02_RightTerms) (ι := { z : Nat // z ≤ a0.length }) 60 0 (fun z => loopsOf [(2, r02_RightTermsL1S a0 z.1 0, [], .need [0 ≤ (z.1 : Int) ∧ (z.1 : Int) < (a0.length : Int), ((a0.getD z.1 default).values).length < 4611686018427387904, ((a0.getD z.1 default).values).length < 4611686018427387904] (r02_RightTermsL1T a0 z.1 0))]) (fun z => r02_RightTermsLS a0 z.1) (fun z => r02_RightTermsLT a0 z.1) (fun z => r02_RightTermsLR a0 z.1) (fun z => a0.length - z.1) (fun z => by obtain ⟨i, hi⟩ := z; exact LoopsOk.one (g := loopSub (loopAt Tryd.f39 0) 0 0) (b := 2) (by kernel_rfl) (by kernel_rfl) (by kernel_rfl) (by kernel_rfl) (fun Q h => r02_RightTermsL1_loop a0 i hp0 hp1 (h.1 _ (List.mem_cons_of_mem _ List.mem_cons_self)) (h.1 _ List.mem_cons_self) ⟨0, by first | exact Nat.zero_le _ | (show 0 ≤ ((a0.getD i default).values).length; omega) | (show 0 ≤ ((a0.getD i default).values).length; exact ⟨Nat.zero_le _, by assumption⟩) | (show 0 ≤ ((a0.getD i default).values).length; simp)⟩ Q h.2)) (fun z => by obtain ⟨i, hi⟩ := z; kernel_rfl) (fun z => by obtain ⟨i, hi⟩ := z; kernel_rfl) (fun z => by obtain ⟨i, hi⟩ := z; kernel_rfl) ?_ z Q h
  rintro ⟨i, hi⟩ Q hT
  replace hT : (r02_RightTermsLT a0 i).All Q := hT
  replace hi : i ≤ a0.length := hi
  show (r02_RightTermsLR a0 i).All _
  unfold r02_RightTermsLR
  refine ⟨fun h0 => ?_, fun h0 => ?_⟩
  · have hlt : i < a0.length := by simpa using h0
    have hd := drop_getD hlt
    have hw := wrap_succ (i := i) (by omega)
    refine ⟨need_cons (by (try refine fun (_ : _ = _) => ?_); (try refine fun (_ : _ ∧ _) => ?_); constructor <;> omega) (need_nil), ?_⟩
    refine ⟨need_cons (by (try refine fun (_ : _ = _) => ?_); (try refine fun (_ : _ ∧ _) => ?_); constructor <;> omega) (need_cons (by (try refine fun (_ : _ = _) => ?_); (try refine fun (_ : _ ∧ _) => ?_); exact (hp1 _ (gD_mem hlt)).1) (need_cons (by (try refine fun (_ : _ = _) => ?_); (try refine fun (_ : _ ∧ _) => ?_); constructor <;> omega) (need_cons (by intro hg; (first | (obtain ⟨_, hg⟩ := hg; simp only [decide_eq_true_eq] at hg; rw [IntKind.wrap_i64]; omega) | (simp only [decide_eq_true_eq] at hg; rw [IntKind.wrap_i64]; omega))) (need_nil)))), ?_⟩
    refine ⟨fun h1 => ?_, fun h1 => ?_⟩
    · have hF : r02_RightTermsLF a0 (a0.drop i) i = true := by rw [hd]; first | exact (cond_t h1 rfl) | simp only [r02_RightTermsLF, h0, h1, cond_true, cond_false]
      unfold r02_RightTermsLT at hT
      rw [hF] at hT
      exact hT.1 rfl
    · refine ⟨need_cons (by (try refine fun (_ : _ = _) => ?_); (try refine fun (_ : _ ∧ _) => ?_); constructor <;> omega) (need_cons (by exact (hp1 _ (gD_mem hlt)).2.1) (need_cons (by exact (hp1 _ (gD_mem hlt)).2.1) (need_nil))), ?_⟩
      refine ⟨fun h2 => ?_, fun h2 => ?_⟩
      · have hF : r02_RightTermsLF a0 (a0.drop i) i = true := by rw [hd]; first | exact (cond_f h1 (cond_t h2 rfl)) | simp only [r02_RightTermsLF, h0, h1, h2, cond_true, cond_false]
        unfold r02_RightTermsLT at hT
        rw [hF] at hT
        exact hT.1 rfl
      · have hF : r02_RightTermsLF a0 (a0.drop i) i = r02_RightTermsLF a0 (a0.drop (i + 1)) (i + 1) := by rw [hd]; first | exact (cond_f h1 (cond_f h2 rfl)) | simp only [r02_RightTermsLF, h0, h1, h2, cond_true, cond_false]
        refine ⟨⟨(i + 1), by show (i + 1) ≤ a0.length; omega⟩, by show a0.length - (i + 1) < a0.length - i; omega, ?_, ?_⟩
        · show _ = r02_RightTermsLS a0 (i + 1)
          unfold r02_RightTermsLS
          simp only [hw]
        · show (r02_RightTermsLT a0 (i + 1)).All Q
          unfold r02_RightTermsLT at hT ⊢
          rw [hF] at hT
          exact hT
  · have hge : ¬ i < a0.length := by simpa using h0
    have hd : a0.drop i = [] := List.drop_eq_nil_of_le (by omega)
    have hF : r02_RightTermsLF a0 (a0.drop i) i = false := by rw [hd]; first | exact rfl | simp only [r02_RightTermsLF, h0, cond_true, cond_false]
    unfold r02_RightTermsLT at hT
    rw [hF] at hT
    exact hT.2 rfl
def r02_RightTermsF (a0 : List XTerm) : Bool :=
  cond (r02_RightTermsLF a0 a0 0)
    false
    (decide ((a0.length : Int) ≤ (8 : Int)))
def r02_RightTermsR (a0 : List XTerm) : RT :=
  (.ask (r02_RightTermsLF a0 a0 0)
    (.leaf .ret ⟨slots 83 [(2, .bool false)], []⟩ [])
    (.leaf .ret ⟨slots 83 [(2, .bool (decide ((a0.length : Int) ≤ (8 : Int))))], []⟩ []))
theorem r02_RightTermsF_tr (a0 : List XTerm) (hp0 : a0.length ≤ 4294967296) (hp1 : ∀ q ∈ a0, q.Fine) : Tr Tryd.prog 0 (bodyOf Tryd.f39) (fnBegins Tryd.f39 [.coll ⟨.term, a0⟩] []) (fnEnds Tryd.prog Tryd.f39 (.bool (r02_RightTermsF a0)) []) := by
  refine Tr_tree (kok _ _ _ _ _ _) (E := E_r02_RightTerms) (L := (loopsOf [(0, r02_RightTermsLS a0 0, [], r02_RightTermsLT a0 0)])) 60 9999 (LoopsOk.one (g := loopAt Tryd.f39 0) (b := 0) (by kernel_rfl) (by kernel_rfl) (by kernel_rfl) (by kernel_rfl) (fun Q h => r02_RightTermsL_loop a0 hp0 hp1 (by omega) ⟨0, by first | exact Nat.zero_le _ | (show 0 ≤ a0.length; omega) | (show 0 ≤ a0.length; exact ⟨Nat.zero_le _, by assumption⟩) | (show 0 ≤ a0.length; simp)⟩ Q h)) (r02_RightTermsR a0) (by kernel_rfl) (by kernel_rfl) (by kernel_rfl) ?_
  unfold r02_RightTermsR
  refine ⟨fun h0 => ?_, fun h0 => ?_⟩
  · have hF : r02_RightTermsF a0 = false := by first | exact (cond_t h0 rfl) | simp only [r02_RightTermsF, h0, cond_true, cond_false]
    exact ⟨trivial, .inl (by first | (rw [hF]; kernel_rfl) | kernel_rfl), by first | (rw [hF]; kernel_rfl) | kernel_rfl⟩
  · have hF : r02_RightTermsF a0 = (decide ((a0.length : Int) ≤ (8 : Int))) := by first | exact (cond_f h0 rfl) | simp only [r02_RightTermsF, h0, cond_true, cond_false]
    exact ⟨trivial, .inl (by first | (rw [hF]; kernel_rfl) | kernel_rfl), by first | (rw [hF]; kernel_rfl) | kernel_rfl⟩
noncomputable def r02_RightTerms_fact : Fact Tryd.prog := factOf 39 Tryd.f39 (by kernel_rfl) rfl (by kernel_rfl) [.c (.coll .term)] [] true (fun t u => .bool (r02_RightTermsF t.1)) (fun t u => []) (fun t u => [t.1.length ≤ 4294967296, ∀ q ∈ t.1, q.Fine])
  (fun _ _ _ => rfl) (fun t u => by kernel_rfl) (fun t u => by kernel_rfl) (fun t u h => r02_RightTermsF_tr t.1 (h _ List.mem_cons_self) (h _ (List.mem_cons_of_mem _ List.mem_cons_self)))
end Go.Proofs.YtbjlmmeabonbpaaDoor
