/- Topo: what labels' text says. -/
import Derived.Test.YtbjlmmeabonbpaaDoorDParse
set_option linter.unusedVariables false
set_option linter.unusedSimpArgs false
set_option maxRecDepth 100000
namespace Go.Proofs.YtbjlmmeabonbpaaDoor
open Go Go.Eng
noncomputable def E_topo_Labels_1 : Env := envOf (P := Tryd.prog) [] [] [] ckf
def topo_Labels_1F (a0 : ByteArray) (a1 : ByteArray) : XLabel :=
  (⟨a0, a1⟩ : XLabel)
def topo_Labels_1R (a0 : ByteArray) (a1 : ByteArray) : RT :=
  (.leaf .ret ⟨slots 8 [(4, .ptr 0 0)], [.cells 76 [.str a0, .str a1]]⟩ [])
theorem topo_Labels_1F_tr (a0 : ByteArray) (a1 : ByteArray)  : Tr Tryd.prog 0 (bodyOf Tryd.f41) (fnBegins Tryd.f41 [.str a0, .str a1] []) (fnEnds Tryd.prog Tryd.f41 (.agg [.str ((topo_Labels_1F a0 a1).key), .str ((topo_Labels_1F a0 a1).value)]) []) := by
  refine Tr_tree (kok _ _ _ _ _ _) (E := E_topo_Labels_1) (L := noLoops) 60 9999 LoopsOk.none (topo_Labels_1R a0 a1) (by kernel_rfl) (by kernel_rfl) (by kernel_rfl) ?_
  unfold topo_Labels_1R
  exact ⟨trivial, .inl (by kernel_rfl), by kernel_rfl⟩
noncomputable def topo_Labels_1_fact : Fact Tryd.prog := factOf 41 Tryd.f41 (by kernel_rfl) rfl (by kernel_rfl) [.c (.str), .c (.str)] [] true (fun t u => .agg [.str ((topo_Labels_1F t.1 t.2.1).key), .str ((topo_Labels_1F t.1 t.2.1).value)]) (fun t u => []) (fun t u => [])
  (fun _ _ _ => rfl) (fun t u => by kernel_rfl) (fun t u => by kernel_rfl) (fun t u h => topo_Labels_1F_tr t.1 t.2.1 )
noncomputable def E_topo_Label_6 : Env := envOf (P := Tryd.prog) [strings_Cut_fact, topo_Labels_1_fact] [] [] ckf
def topo_Label_6LF  : Nat → ByteArray → Bool → List XLabel → Bool × List XLabel
  | 0, _, _, _ => (default, default)
  | n + 1, v0, v1, v2 => cond v1
    (cond (!((strings_CutF ((strings_CutF v0 (⟨#[44]⟩ : ByteArray)).1) (⟨#[61]⟩ : ByteArray)).2.2))
      (true, default)
      (topo_Label_6LF n ((strings_CutF v0 (⟨#[44]⟩ : ByteArray)).2.1) ((strings_CutF v0 (⟨#[44]⟩ : ByteArray)).2.2) (v2 ++ [(topo_Labels_1F ((strings_CutF ((strings_CutF v0 (⟨#[44]⟩ : ByteArray)).1) (⟨#[61]⟩ : ByteArray)).1) ((strings_CutF ((strings_CutF v0 (⟨#[44]⟩ : ByteArray)).1) (⟨#[61]⟩ : ByteArray)).2.1))])))
    (false, v2)
def topo_Label_6LS (a0 : ByteArray) (v0 : ByteArray) (v1 : Bool) (v2 : List XLabel) (g : Nat) : St :=
  ⟨slots 37 [(0, .str v0), (1, .fn 41 []), (6, .vec 0), (7, .bool v1)], [.vec true ⟨.label, v2⟩]⟩
def topo_Label_6LR (a0 : ByteArray) (v0 : ByteArray) (v1 : Bool) (v2 : List XLabel) (g : Nat) : RT :=
  (.ask v1
    (.need [(⟨#[44]⟩ : ByteArray).size = 1, v0.size < 4611686018427387904]
      (.need [(⟨#[61]⟩ : ByteArray).size = 1, ((strings_CutF v0 (⟨#[44]⟩ : ByteArray)).1).size < 4611686018427387904]
        (.ask (!((strings_CutF ((strings_CutF v0 (⟨#[44]⟩ : ByteArray)).1) (⟨#[61]⟩ : ByteArray)).2.2))
          (.leaf .ret ⟨slots 37 [(4, .vec 0), (5, .bool false)], [.vec true ⟨.label, []⟩]⟩ [1])
          (.need [(v2.length + [(topo_Labels_1F ((strings_CutF ((strings_CutF v0 (⟨#[44]⟩ : ByteArray)).1) (⟨#[61]⟩ : ByteArray)).1) ((strings_CutF ((strings_CutF v0 (⟨#[44]⟩ : ByteArray)).1) (⟨#[61]⟩ : ByteArray)).2.1))].length) * 32 ≤ bytesLim ∧ v2.length + [(topo_Labels_1F ((strings_CutF ((strings_CutF v0 (⟨#[44]⟩ : ByteArray)).1) (⟨#[61]⟩ : ByteArray)).1) ((strings_CutF ((strings_CutF v0 (⟨#[44]⟩ : ByteArray)).1) (⟨#[61]⟩ : ByteArray)).2.1))].length ≤ maxLen]
            (.leaf .normal ⟨slots 37 [(0, .str ((strings_CutF v0 (⟨#[44]⟩ : ByteArray)).2.1)), (1, .fn 41 []), (6, .vec 0), (7, .bool ((strings_CutF v0 (⟨#[44]⟩ : ByteArray)).2.2))], [.vec true ⟨.label, (v2 ++ [(topo_Labels_1F ((strings_CutF ((strings_CutF v0 (⟨#[44]⟩ : ByteArray)).1) (⟨#[61]⟩ : ByteArray)).1) ((strings_CutF ((strings_CutF v0 (⟨#[44]⟩ : ByteArray)).1) (⟨#[61]⟩ : ByteArray)).2.1))])⟩]⟩ [2])))))
    (.leaf (.exit 0) ⟨slots 37 [(6, .vec 0)], [.vec true ⟨.label, v2⟩]⟩ []))
def topo_Label_6LT (a0 : ByteArray) (v0 : ByteArray) (v1 : Bool) (v2 : List XLabel) (g : Nat) : Tree :=
  .ask ((topo_Label_6LF (g + 1) v0 v1 v2).1) (.leaf .ret ⟨slots 37 [(4, .vec 0), (5, .bool false)], [.vec true ⟨.label, []⟩]⟩) (.leaf (.exit 0) ⟨slots 37 [(6, .vec 0)], [.vec true ⟨.label, (topo_Label_6LF (g + 1) v0 v1 v2).2⟩]⟩)
theorem topo_Label_6L_loop (a0 : ByteArray) (hp0 : a0.size ≤ 4294967280) (z : { z : ByteArray × Bool × List XLabel × Nat // partsMu z.2.1 z.1 ≤ z.2.2.2 ∧ z.2.2.1.length + partsMu z.2.1 z.1 ≤ a0.size + 1 }) (Q : Exit → St → Prop) (h : (topo_Label_6LT a0 z.1.1 z.1.2.1 z.1.2.2.1 z.1.2.2.2).All Q) : Tr Tryd.prog 0 (.loop (loopAt Tryd.f40 0)) (topo_Label_6LS a0 z.1.1 z.1.2.1 z.1.2.2.1 z.1.2.2.2) Q := by
  refine Tr_loopT (kok _ _ _ _ _ _) (E := E_topo_Label_6) (ι := { z : ByteArray × Bool × List XLabel × Nat // partsMu z.2.1 z.1 ≤ z.2.2.2 ∧ z.2.2.1.length + partsMu z.2.1 z.1 ≤ a0.size + 1 }) 60 0 (fun _ => noLoops) (fun z => topo_Label_6LS a0 z.1.1 z.1.2.1 z.1.2.2.1 z.1.2.2.2) (fun z => topo_Label_6LT a0 z.1.1 z.1.2.1 z.1.2.2.1 z.1.2.2.2) (fun z => topo_Label_6LR a0 z.1.1 z.1.2.1 z.1.2.2.1 z.1.2.2.2) (fun z => z.1.2.2.2) (fun _ => LoopsOk.none) (fun z => by obtain ⟨⟨v0, v1, v2, g⟩, hi⟩ := z; kernel_rfl) (fun z => by obtain ⟨⟨v0, v1, v2, g⟩, hi⟩ := z; kernel_rfl) (fun z => by obtain ⟨⟨v0, v1, v2, g⟩, hi⟩ := z; kernel_rfl) ?_ z Q h
  rintro ⟨⟨v0, v1, v2, g⟩, hi⟩ Q hT
  replace hT : (topo_Label_6LT a0 v0 v1 v2 g).All Q := hT
  replace hi : partsMu v1 v0 ≤ g ∧ v2.length + partsMu v1 v0 ≤ a0.size + 1 := hi
  show (topo_Label_6LR a0 v0 v1 v2 g).All _
  unfold topo_Label_6LR
  refine ⟨fun h0 => ?_, fun h0 => ?_⟩
  · refine ⟨need_cons (by rfl) (need_cons (by have hmt := partsMu_true v0; rw [show v1 = true from h0] at hi; omega) (need_nil)), ?_⟩
    refine ⟨need_cons (by rfl) (need_cons (by have hmt := partsMu_true v0; rw [show v1 = true from h0] at hi; have hc2 := cut_size v0 (⟨#[44]⟩ : ByteArray) rfl (by omega); have hc1 := cut_size (strings_CutF v0 (⟨#[44]⟩ : ByteArray)).1 (⟨#[61]⟩ : ByteArray) rfl (by omega); omega) (need_nil)), ?_⟩
    refine ⟨fun h1 => ?_, fun h1 => ?_⟩
    · have hF : topo_Label_6LF (g + 1) v0 v1 v2 = (true, default) := by simp only [topo_Label_6LF, h0, h1, cond_true, cond_false]
      unfold topo_Label_6LT at hT
      rw [hF] at hT
      exact hT.1 rfl
    · refine ⟨need_cons (by have hmt := partsMu_true v0; rw [show v1 = true from h0] at hi; unfold bytesLim maxLen; simp only [List.length_cons, List.length_nil]; omega) (need_nil), ?_⟩
      have h9 := h0
      try simp only [decide_eq_true_eq, decide_eq_false_iff_not] at h9
      have hmt := partsMu_true v0; rw [show v1 = true from h0] at hi; have hmc := partsMu_cut v0 (⟨#[44]⟩ : ByteArray) rfl (by omega); 
      have hF : topo_Label_6LF (g + 1) v0 v1 v2 = topo_Label_6LF (g) ((strings_CutF v0 (⟨#[44]⟩ : ByteArray)).2.1) ((strings_CutF v0 (⟨#[44]⟩ : ByteArray)).2.2) (v2 ++ [(topo_Labels_1F ((strings_CutF ((strings_CutF v0 (⟨#[44]⟩ : ByteArray)).1) (⟨#[61]⟩ : ByteArray)).1) ((strings_CutF ((strings_CutF v0 (⟨#[44]⟩ : ByteArray)).1) (⟨#[61]⟩ : ByteArray)).2.1))]) := by simp only [topo_Label_6LF, h0, h1, cond_true, cond_false]
      refine ⟨⟨((strings_CutF v0 (⟨#[44]⟩ : ByteArray)).2.1, (strings_CutF v0 (⟨#[44]⟩ : ByteArray)).2.2, (v2 ++ [(topo_Labels_1F ((strings_CutF ((strings_CutF v0 (⟨#[44]⟩ : ByteArray)).1) (⟨#[61]⟩ : ByteArray)).1) ((strings_CutF ((strings_CutF v0 (⟨#[44]⟩ : ByteArray)).1) (⟨#[61]⟩ : ByteArray)).2.1))]), (g - 1)), by (first | dsimp only | skip); (try simp only [List.length_append, List.length_cons, List.length_nil]); constructor <;> omega⟩, by show (g - 1) < g; omega, ?_, ?_⟩
      · show _ = topo_Label_6LS a0 ((strings_CutF v0 (⟨#[44]⟩ : ByteArray)).2.1) ((strings_CutF v0 (⟨#[44]⟩ : ByteArray)).2.2) (v2 ++ [(topo_Labels_1F ((strings_CutF ((strings_CutF v0 (⟨#[44]⟩ : ByteArray)).1) (⟨#[61]⟩ : ByteArray)).1) ((strings_CutF ((strings_CutF v0 (⟨#[44]⟩ : ByteArray)).1) (⟨#[61]⟩ : ByteArray)).2.1))]) (g - 1)
        unfold topo_Label_6LS
        rfl
      · show (topo_Label_6LT a0 ((strings_CutF v0 (⟨#[44]⟩ : ByteArray)).2.1) ((strings_CutF v0 (⟨#[44]⟩ : ByteArray)).2.2) (v2 ++ [(topo_Labels_1F ((strings_CutF ((strings_CutF v0 (⟨#[44]⟩ : ByteArray)).1) (⟨#[61]⟩ : ByteArray)).1) ((strings_CutF ((strings_CutF v0 (⟨#[44]⟩ : ByteArray)).1) (⟨#[61]⟩ : ByteArray)).2.1))]) (g - 1)).All Q
        unfold topo_Label_6LT at hT ⊢
        rw [hF] at hT
        rw [show g = (g - 1) + 1 from by omega] at hT
        exact hT
  · have hF : topo_Label_6LF (g + 1) v0 v1 v2 = (false, v2) := by simp only [topo_Label_6LF, h0, cond_true, cond_false]
    unfold topo_Label_6LT at hT
    rw [hF] at hT
    exact hT.2 rfl
def topo_Label_6F (a0 : ByteArray) : Bool × List XLabel :=
  cond ((topo_Label_6LF ((a0.size + 1) + 1) a0 (!(decide (a0 = (⟨#[]⟩ : ByteArray)))) []).1)
    (false, [])
    (true, (topo_Label_6LF ((a0.size + 1) + 1) a0 (!(decide (a0 = (⟨#[]⟩ : ByteArray)))) []).2)
def topo_Label_6R (a0 : ByteArray) : RT :=
  (.ask ((topo_Label_6LF ((a0.size + 1) + 1) a0 (!(decide (a0 = (⟨#[]⟩ : ByteArray)))) []).1)
    (.leaf .ret ⟨slots 37 [(4, .vec 0), (5, .bool false)], [.vec true ⟨.label, []⟩]⟩ [])
    (.leaf .ret ⟨slots 37 [(4, .vec 0), (5, .bool true)], [.vec true ⟨.label, (topo_Label_6LF ((a0.size + 1) + 1) a0 (!(decide (a0 = (⟨#[]⟩ : ByteArray)))) []).2⟩]⟩ []))
theorem topo_Label_6F_tr (a0 : ByteArray) (hp0 : a0.size ≤ 4294967280) : Tr Tryd.prog 0 (bodyOf Tryd.f40) (fnBegins Tryd.f40 [.str a0, .fn 41 []] []) (fnEnds Tryd.prog Tryd.f40 (.tup [.vec 0, .bool ((topo_Label_6F a0).1)]) [.vec true ⟨.label, (topo_Label_6F a0).2⟩]) := by
  refine Tr_tree (kok _ _ _ _ _ _) (E := E_topo_Label_6) (L := (loopsOf [(0, topo_Label_6LS a0 a0 (!(decide (a0 = (⟨#[]⟩ : ByteArray)))) [] (a0.size + 1), [1], topo_Label_6LT a0 a0 (!(decide (a0 = (⟨#[]⟩ : ByteArray)))) [] (a0.size + 1))])) 60 9999 (LoopsOk.one (g := loopAt Tryd.f40 0) (b := 0) (by kernel_rfl) (by kernel_rfl) (by kernel_rfl) (by kernel_rfl) (fun Q h => topo_Label_6L_loop a0 hp0 ⟨(a0, !(decide (a0 = (⟨#[]⟩ : ByteArray))), [], (a0.size + 1)), ⟨partsMu_le _ _, by rw [List.length_nil, Nat.zero_add]; exact partsMu_le _ _⟩⟩ Q h)) (topo_Label_6R a0) (by kernel_rfl) (by kernel_rfl) (by kernel_rfl) ?_
  unfold topo_Label_6R
  refine ⟨fun h0 => ?_, fun h0 => ?_⟩
  · have hF : topo_Label_6F a0 = (false, []) := by first | exact (cond_t h0 rfl) | simp only [topo_Label_6F, h0, cond_true, cond_false]
    exact ⟨trivial, .inl (by first | (rw [hF]; kernel_rfl) | kernel_rfl), by first | (rw [hF]; kernel_rfl) | kernel_rfl⟩
  · have hF : topo_Label_6F a0 = (true, (topo_Label_6LF ((a0.size + 1) + 1) a0 (!(decide (a0 = (⟨#[]⟩ : ByteArray)))) []).2) := by first | exact (cond_f h0 rfl) | simp only [topo_Label_6F, h0, cond_true, cond_false]
    exact ⟨trivial, .inl (by first | (rw [hF]; kernel_rfl) | kernel_rfl), by first | (rw [hF]; kernel_rfl) | kernel_rfl⟩
noncomputable def topo_Label_6_fact : Fact Tryd.prog := factOf 40 Tryd.f40 (by kernel_rfl) rfl (by kernel_rfl) [.c (.str), .c (.fn 41)] [] false (fun t u => .tup [.vec 0, .bool ((topo_Label_6F t.1).1)]) (fun t u => [.vec true ⟨.label, (topo_Label_6F t.1).2⟩]) (fun t u => [t.1.size ≤ 4294967280])
  (nofun) (fun t u => by kernel_rfl) (fun t u => by kernel_rfl) (fun t u h => topo_Label_6F_tr t.1 (h _ List.mem_cons_self))
noncomputable def E_topo_Labels : Env := envOf (P := Tryd.prog) [topo_Label_6_fact, topo_rightLabels_fact] [] [] ckf
theorem topo_Label_6L_good (N : Nat) (hN : N ≤ 4294967280) : ∀ (n : Nat) (v0 : ByteArray) (v1 : Bool) (v2 : List XLabel), v0.size ≤ N → v2.length + partsMu v1 v0 ≤ N + 1 → (∀ q ∈ v2, q.Fine) → (topo_Label_6LF n v0 v1 v2).2.length ≤ N + 1 ∧ ∀ q ∈ (topo_Label_6LF n v0 v1 v2).2, q.Fine
  | 0, _, _, _, _, _, _ => ⟨Nat.zero_le _, fun q hq => by simp [topo_Label_6LF] at hq; cases hq⟩
  | n + 1, v0, false, v2, h0, h1, h2 => by
    unfold topo_Label_6LF
    exact ⟨by have : partsMu false v0 = 0 := rfl
              show v2.length ≤ N + 1
              omega, h2⟩
  | n + 1, v0, true, v2, h0, h1, h2 => by
    rw [partsMu_true] at h1
    have hmc := partsMu_cut v0 (⟨#[44]⟩ : ByteArray) rfl (by omega)
    have hc2 := cut_size v0 (⟨#[44]⟩ : ByteArray) rfl (by omega)
    have hc1 := cut_size (strings_CutF v0 (⟨#[44]⟩ : ByteArray)).1 (⟨#[61]⟩ : ByteArray) rfl (by omega)
    unfold topo_Label_6LF
    rw [cond_true]
    cases (!((strings_CutF ((strings_CutF v0 (⟨#[44]⟩ : ByteArray)).1) (⟨#[61]⟩ : ByteArray)).2.2)) with
    | true => exact ⟨Nat.zero_le _, fun q hq => by simp at hq; cases hq⟩
    | false =>
      rw [cond_false]
      refine topo_Label_6L_good N hN n _ _ _ (by omega) (by rw [List.length_append, List.length_cons, List.length_nil]; omega) fun q hq => ?_
      rcases List.mem_append.1 hq with hq | hq
      · exact h2 q hq
      · rw [List.mem_singleton.1 hq]
        exact ⟨by show (strings_CutF _ _).1.size < _; omega, by show (strings_CutF _ _).2.1.size < _; omega⟩
theorem topo_Label_6_good (s : ByteArray) (h : s.size ≤ 4294967280) : (topo_Label_6F s).2.length ≤ 4294967296 ∧ ∀ q ∈ (topo_Label_6F s).2, q.Fine := by
  have h1 := topo_Label_6L_good s.size h (s.size + 1 + 1) s (!(decide (s = (⟨#[]⟩ : ByteArray)))) [] (Nat.le_refl _) (by rw [List.length_nil, Nat.zero_add]; exact partsMu_le _ _) (fun q hq => by simp at hq)
  unfold topo_Label_6F
  cases (topo_Label_6LF ((s.size + 1) + 1) s (!(decide (s = (⟨#[]⟩ : ByteArray)))) []).1 with
  | true => exact ⟨Nat.zero_le _, fun q hq => by simp at hq⟩
  | false => exact ⟨Nat.le_trans h1.1 (by omega), h1.2⟩
def topo_LabelsF (a0 : ByteArray) : Int × List XLabel :=
  cond (cond (!((topo_Label_6F a0).1)) true (!(topo_rightLabelsF ((topo_Label_6F a0).2))))
    ((2 : Int), [])
    ((0 : Int), (topo_Label_6F a0).2)
def topo_LabelsR (a0 : ByteArray) : RT :=
  (.need [a0.size ≤ 4294967280]
    (.need [((!((topo_Label_6F a0).1)) = false) → (((topo_Label_6F a0).2).length ≤ 4294967296), ((!((topo_Label_6F a0).1)) = false) → (∀ q ∈ ((topo_Label_6F a0).2), q.Fine)]
      (.ask (cond (!((topo_Label_6F a0).1)) true (!(topo_rightLabelsF ((topo_Label_6F a0).2))))
        (.leaf .ret ⟨slots 19 [(2, .vec 0), (3, .int .i64 2)], [.vec true ⟨.label, []⟩]⟩ [2])
        (.leaf .ret ⟨slots 19 [(2, .vec 0), (3, .int .i64 0)], [.vec true ⟨.label, (topo_Label_6F a0).2⟩]⟩ [1]))))
theorem topo_LabelsF_tr (a0 : ByteArray) (hp0 : a0.size ≤ 4294967280) : Tr Tryd.prog 0 (bodyOf Tryd.f14) (fnBegins Tryd.f14 [.str a0] []) (fnEnds Tryd.prog Tryd.f14 (.tup [.vec 0, .int .i64 ((topo_LabelsF a0).1)]) [.vec true ⟨.label, (topo_LabelsF a0).2⟩]) := by
  refine Tr_tree (kok _ _ _ _ _ _) (E := E_topo_Labels) (L := noLoops) 60 9999 LoopsOk.none (topo_LabelsR a0) (by kernel_rfl) (by kernel_rfl) (by kernel_rfl) ?_
  unfold topo_LabelsR
  refine ⟨need_cons (by first | assumption | omega | (intro; omega) | (simp only [decide_eq_true_eq, decide_eq_false_iff_not, Bool.cond_false_right, Bool.cond_true_right, Bool.cond_true_left, Bool.cond_false_left, Bool.and_eq_true, Bool.or_eq_true, Bool.not_eq_true', bytesLim, maxLen, List.length_cons, List.length_nil, List.length_append, byteSize_lit] at *; omega) | (intro; simp only [decide_eq_true_eq, decide_eq_false_iff_not, Bool.cond_false_right, Bool.cond_true_right, Bool.cond_true_left, Bool.cond_false_left, Bool.and_eq_true, Bool.or_eq_true, Bool.not_eq_true', bytesLim, maxLen, List.length_cons, List.length_nil, List.length_append, byteSize_lit] at *; omega)) (need_nil), ?_⟩
  refine ⟨need_cons (by intro _; exact (topo_Label_6_good a0 hp0).1) (need_cons (by intro _; exact (topo_Label_6_good a0 hp0).2) (need_nil)), ?_⟩
  refine ⟨fun h0 => ?_, fun h0 => ?_⟩
  · have hF : topo_LabelsF a0 = ((2 : Int), []) := by first | exact (cond_t h0 rfl) | simp only [topo_LabelsF, h0, cond_true, cond_false]
    exact ⟨trivial, .inl (by first | (rw [hF]; kernel_rfl) | kernel_rfl), by first | (rw [hF]; kernel_rfl) | kernel_rfl⟩
  · have hF : topo_LabelsF a0 = ((0 : Int), (topo_Label_6F a0).2) := by first | exact (cond_f h0 rfl) | simp only [topo_LabelsF, h0, cond_true, cond_false]
    exact ⟨trivial, .inl (by first | (rw [hF]; kernel_rfl) | kernel_rfl), by first | (rw [hF]; kernel_rfl) | kernel_rfl⟩
noncomputable def topo_Labels_fact : Fact Tryd.prog := factOf 14 Tryd.f14 (by kernel_rfl) rfl (by kernel_rfl) [.c (.str)] [] false (fun t u => .tup [.vec 0, .int .i64 ((topo_LabelsF t.1).1)]) (fun t u => [.vec true ⟨.label, (topo_LabelsF t.1).2⟩]) (fun t u => [t.1.size ≤ 4294967280])
  (nofun) (fun t u => by kernel_rfl) (fun t u => by kernel_rfl) (fun t u h => topo_LabelsF_tr t.1 (h _ List.mem_cons_self))
end Go.Proofs.YtbjlmmeabonbpaaDoor
