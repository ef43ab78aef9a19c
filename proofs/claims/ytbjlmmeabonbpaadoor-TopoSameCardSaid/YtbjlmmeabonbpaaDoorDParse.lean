/- Topo: what a text says. -/
import Derived.Test.YtbjlmmeabonbpaaDoorDH1
set_option linter.unusedVariables false
set_option linter.unusedSimpArgs false
set_option maxRecDepth 100000
namespace Go.Proofs.YtbjlmmeabonbpaaDoor
open Go Go.Eng
noncomputable def E_topo_Parse_1 : Env := envOf (P := Tryd.prog) [split1_fact] [] [] ckf
def topo_Parse_1F (a0 : ByteArray) (a1 : ByteArray) : XTerm :=
  (⟨a0, split1 a1 (⟨#[124]⟩ : ByteArray)⟩ : XTerm)
def topo_Parse_1R (a0 : ByteArray) (a1 : ByteArray) : RT :=
  (.need [a1.size ≤ 4294967280, (⟨#[124]⟩ : ByteArray).size = 1]
    (.leaf .ret ⟨slots 9 [(4, .ptr 0 0)], [.cells 66 [.str a0, .coll ⟨.str, split1 a1 (⟨#[124]⟩ : ByteArray)⟩]]⟩ []))
theorem topo_Parse_1F_tr (a0 : ByteArray) (a1 : ByteArray) (hp0 : a1.size ≤ 4294967280) : Tr Tryd.prog 0 (bodyOf Tryd.f35) (fnBegins Tryd.f35 [.str a0, .str a1] []) (fnEnds Tryd.prog Tryd.f35 (.agg [.str ((topo_Parse_1F a0 a1).key), .coll ⟨.str, (topo_Parse_1F a0 a1).values⟩]) []) := by
  refine Tr_tree (kok _ _ _ _ _ _) (E := E_topo_Parse_1) (L := noLoops) 60 9999 LoopsOk.none (topo_Parse_1R a0 a1) (by kernel_rfl) (by kernel_rfl) (by kernel_rfl) ?_
  unfold topo_Parse_1R
  refine ⟨need_cons (by first | assumption | omega | (intro; omega) | (simp only [decide_eq_true_eq, decide_eq_false_iff_not, Bool.cond_false_right, Bool.cond_true_right, Bool.cond_true_left, Bool.cond_false_left, Bool.and_eq_true, Bool.or_eq_true, Bool.not_eq_true', bytesLim, maxLen, List.length_cons, List.length_nil, List.length_append, byteSize_lit] at *; omega) | (intro; simp only [decide_eq_true_eq, decide_eq_false_iff_not, Bool.cond_false_right, Bool.cond_true_right, Bool.cond_true_left, Bool.cond_false_left, Bool.and_eq_true, Bool.or_eq_true, Bool.not_eq_true', bytesLim, maxLen, List.length_cons, List.length_nil, List.length_append, byteSize_lit] at *; omega)) (need_cons (by rfl) (need_nil)), ?_⟩
  exact ⟨trivial, .inl (by kernel_rfl), by kernel_rfl⟩
noncomputable def topo_Parse_1_fact : Fact Tryd.prog := factOf 35 Tryd.f35 (by kernel_rfl) rfl (by kernel_rfl) [.c (.str), .c (.str)] [] true (fun t u => .agg [.str ((topo_Parse_1F t.1 t.2.1).key), .coll ⟨.str, (topo_Parse_1F t.1 t.2.1).values⟩]) (fun t u => []) (fun t u => [t.2.1.size ≤ 4294967280])
  (fun _ _ _ => rfl) (fun t u => by kernel_rfl) (fun t u => by kernel_rfl) (fun t u h => topo_Parse_1F_tr t.1 t.2.1 (h _ List.mem_cons_self))
noncomputable def E_topo_Term_4 : Env := envOf (P := Tryd.prog) [strings_Cut_fact, topo_Parse_1_fact] [] [] ckf
def topo_Term_4LF  : Nat → ByteArray → Bool → List XTerm → Bool × List XTerm
  | 0, _, _, _ => (default, default)
  | n + 1, v0, v1, v2 => cond v1
    (cond (!((strings_CutF ((strings_CutF v0 (⟨#[44]⟩ : ByteArray)).1) (⟨#[61]⟩ : ByteArray)).2.2))
      (true, default)
      (topo_Term_4LF n ((strings_CutF v0 (⟨#[44]⟩ : ByteArray)).2.1) ((strings_CutF v0 (⟨#[44]⟩ : ByteArray)).2.2) (v2 ++ [(topo_Parse_1F ((strings_CutF ((strings_CutF v0 (⟨#[44]⟩ : ByteArray)).1) (⟨#[61]⟩ : ByteArray)).1) ((strings_CutF ((strings_CutF v0 (⟨#[44]⟩ : ByteArray)).1) (⟨#[61]⟩ : ByteArray)).2.1))])))
    (false, v2)
def topo_Term_4LS (a0 : ByteArray) (v0 : ByteArray) (v1 : Bool) (v2 : List XTerm) (g : Nat) : St :=
  ⟨slots 37 [(0, .str v0), (1, .fn 35 []), (6, .vec 0), (7, .bool v1)], [.vec true ⟨.term, v2⟩]⟩
def topo_Term_4LR (a0 : ByteArray) (v0 : ByteArray) (v1 : Bool) (v2 : List XTerm) (g : Nat) : RT :=
  (.ask v1
    (.need [(⟨#[44]⟩ : ByteArray).size = 1, v0.size < 4611686018427387904]
      (.need [(⟨#[61]⟩ : ByteArray).size = 1, ((strings_CutF v0 (⟨#[44]⟩ : ByteArray)).1).size < 4611686018427387904]
        (.ask (!((strings_CutF ((strings_CutF v0 (⟨#[44]⟩ : ByteArray)).1) (⟨#[61]⟩ : ByteArray)).2.2))
          (.leaf .ret ⟨slots 37 [(4, .vec 0), (5, .bool false)], [.vec true ⟨.term, []⟩]⟩ [1])
          (.need [((strings_CutF ((strings_CutF v0 (⟨#[44]⟩ : ByteArray)).1) (⟨#[61]⟩ : ByteArray)).2.1).size ≤ 4294967280]
            (.need [(v2.length + [(topo_Parse_1F ((strings_CutF ((strings_CutF v0 (⟨#[44]⟩ : ByteArray)).1) (⟨#[61]⟩ : ByteArray)).1) ((strings_CutF ((strings_CutF v0 (⟨#[44]⟩ : ByteArray)).1) (⟨#[61]⟩ : ByteArray)).2.1))].length) * 40 ≤ bytesLim ∧ v2.length + [(topo_Parse_1F ((strings_CutF ((strings_CutF v0 (⟨#[44]⟩ : ByteArray)).1) (⟨#[61]⟩ : ByteArray)).1) ((strings_CutF ((strings_CutF v0 (⟨#[44]⟩ : ByteArray)).1) (⟨#[61]⟩ : ByteArray)).2.1))].length ≤ maxLen]
              (.leaf .normal ⟨slots 37 [(0, .str ((strings_CutF v0 (⟨#[44]⟩ : ByteArray)).2.1)), (1, .fn 35 []), (6, .vec 0), (7, .bool ((strings_CutF v0 (⟨#[44]⟩ : ByteArray)).2.2))], [.vec true ⟨.term, (v2 ++ [(topo_Parse_1F ((strings_CutF ((strings_CutF v0 (⟨#[44]⟩ : ByteArray)).1) (⟨#[61]⟩ : ByteArray)).1) ((strings_CutF ((strings_CutF v0 (⟨#[44]⟩ : ByteArray)).1) (⟨#[61]⟩ : ByteArray)).2.1))])⟩]⟩ [2]))))))
    (.leaf (.exit 0) ⟨slots 37 [(6, .vec 0)], [.vec true ⟨.term, v2⟩]⟩ []))
def topo_Term_4LT (a0 : ByteArray) (v0 : ByteArray) (v1 : Bool) (v2 : List XTerm) (g : Nat) : Tree :=
  .ask ((topo_Term_4LF (g + 1) v0 v1 v2).1) (.leaf .ret ⟨slots 37 [(4, .vec 0), (5, .bool false)], [.vec true ⟨.term, []⟩]⟩) (.leaf (.exit 0) ⟨slots 37 [(6, .vec 0)], [.vec true ⟨.term, (topo_Term_4LF (g + 1) v0 v1 v2).2⟩]⟩)
theorem topo_Term_4L_loop (a0 : ByteArray) (hp0 : a0.size ≤ 4294967280) (z : { z : ByteArray × Bool × List XTerm × Nat // partsMu z.2.1 z.1 ≤ z.2.2.2 ∧ z.2.2.1.length + partsMu z.2.1 z.1 ≤ a0.size + 1 }) (Q : Exit → St → Prop) (h : (topo_Term_4LT a0 z.1.1 z.1.2.1 z.1.2.2.1 z.1.2.2.2).All Q) : Tr Tryd.prog 0 (.loop (loopAt Tryd.f34 0)) (topo_Term_4LS a0 z.1.1 z.1.2.1 z.1.2.2.1 z.1.2.2.2) Q := by
  refine Tr_loopT (kok _ _ _ _ _ _) (E := E_topo_Term_4) (ι := { z : ByteArray × Bool × List XTerm × Nat // partsMu z.2.1 z.1 ≤ z.2.2.2 ∧ z.2.2.1.length + partsMu z.2.1 z.1 ≤ a0.size + 1 }) 60 0 (fun _ => noLoops) (fun z => topo_Term_4LS a0 z.1.1 z.1.2.1 z.1.2.2.1 z.1.2.2.2) (fun z => topo_Term_4LT a0 z.1.1 z.1.2.1 z.1.2.2.1 z.1.2.2.2) (fun z => topo_Term_4LR a0 z.1.1 z.1.2.1 z.1.2.2.1 z.1.2.2.2) (fun z => z.1.2.2.2) (fun _ => LoopsOk.none) (fun z => by obtain ⟨⟨v0, v1, v2, g⟩, hi⟩ := z; kernel_rfl) (fun z => by obtain ⟨⟨v0, v1, v2, g⟩, hi⟩ := z; kernel_rfl) (fun z => by obtain ⟨⟨v0, v1, v2, g⟩, hi⟩ := z; kernel_rfl) ?_ z Q h
  rintro ⟨⟨v0, v1, v2, g⟩, hi⟩ Q hT
  replace hT : (topo_Term_4LT a0 v0 v1 v2 g).All Q := hT
  replace hi : partsMu v1 v0 ≤ g ∧ v2.length + partsMu v1 v0 ≤ a0.size + 1 := hi
  show (topo_Term_4LR a0 v0 v1 v2 g).All _
  unfold topo_Term_4LR
  refine ⟨fun h0 => ?_, fun h0 => ?_⟩
  · refine ⟨need_cons (by rfl) (need_cons (by have hmt := partsMu_true v0; rw [show v1 = true from h0] at hi; omega) (need_nil)), ?_⟩
    refine ⟨need_cons (by rfl) (need_cons (by have hmt := partsMu_true v0; rw [show v1 = true from h0] at hi; have hc2 := cut_size v0 (⟨#[44]⟩ : ByteArray) rfl (by omega); have hc1 := cut_size (strings_CutF v0 (⟨#[44]⟩ : ByteArray)).1 (⟨#[61]⟩ : ByteArray) rfl (by omega); omega) (need_nil)), ?_⟩
    refine ⟨fun h1 => ?_, fun h1 => ?_⟩
    · have hF : topo_Term_4LF (g + 1) v0 v1 v2 = (true, default) := by simp only [topo_Term_4LF, h0, h1, cond_true, cond_false]
      unfold topo_Term_4LT at hT
      rw [hF] at hT
      exact hT.1 rfl
    · refine ⟨need_cons (by have hmt := partsMu_true v0; rw [show v1 = true from h0] at hi; have hc2 := cut_size v0 (⟨#[44]⟩ : ByteArray) rfl (by omega); have hc1 := cut_size (strings_CutF v0 (⟨#[44]⟩ : ByteArray)).1 (⟨#[61]⟩ : ByteArray) rfl (by omega); omega) (need_nil), ?_⟩
      refine ⟨need_cons (by have hmt := partsMu_true v0; rw [show v1 = true from h0] at hi; unfold bytesLim maxLen; simp only [List.length_cons, List.length_nil]; omega) (need_nil), ?_⟩
      have h9 := h0
      try simp only [decide_eq_true_eq, decide_eq_false_iff_not] at h9
      have hmt := partsMu_true v0; rw [show v1 = true from h0] at hi; have hmc := partsMu_cut v0 (⟨#[44]⟩ : ByteArray) rfl (by omega); 
      have hF : topo_Term_4LF (g + 1) v0 v1 v2 = topo_Term_4LF (g) ((strings_CutF v0 (⟨#[44]⟩ : ByteArray)).2.1) ((strings_CutF v0 (⟨#[44]⟩ : ByteArray)).2.2) (v2 ++ [(topo_Parse_1F ((strings_CutF ((strings_CutF v0 (⟨#[44]⟩ : ByteArray)).1) (⟨#[61]⟩ : ByteArray)).1) ((strings_CutF ((strings_CutF v0 (⟨#[44]⟩ : ByteArray)).1) (⟨#[61]⟩ : ByteArray)).2.1))]) := by simp only [topo_Term_4LF, h0, h1, cond_true, cond_false]
      refine ⟨⟨((strings_CutF v0 (⟨#[44]⟩ : ByteArray)).2.1, (strings_CutF v0 (⟨#[44]⟩ : ByteArray)).2.2, (v2 ++ [(topo_Parse_1F ((strings_CutF ((strings_CutF v0 (⟨#[44]⟩ : ByteArray)).1) (⟨#[61]⟩ : ByteArray)).1) ((strings_CutF ((strings_CutF v0 (⟨#[44]⟩ : ByteArray)).1) (⟨#[61]⟩ : ByteArray)).2.1))]), (g - 1)), by (first | dsimp only | skip); (try simp only [List.length_append, List.length_cons, List.length_nil]); constructor <;> omega⟩, by show (g - 1) < g; omega, ?_, ?_⟩
      · show _ = topo_Term_4LS a0 ((strings_CutF v0 (⟨#[44]⟩ : ByteArray)).2.1) ((strings_CutF v0 (⟨#[44]⟩ : ByteArray)).2.2) (v2 ++ [(topo_Parse_1F ((strings_CutF ((strings_CutF v0 (⟨#[44]⟩ : ByteArray)).1) (⟨#[61]⟩ : ByteArray)).1) ((strings_CutF ((strings_CutF v0 (⟨#[44]⟩ : ByteArray)).1) (⟨#[61]⟩ : ByteArray)).2.1))]) (g - 1)
        unfold topo_Term_4LS
        rfl
      · show (topo_Term_4LT a0 ((strings_CutF v0 (⟨#[44]⟩ : ByteArray)).2.1) ((strings_CutF v0 (⟨#[44]⟩ : ByteArray)).2.2) (v2 ++ [(topo_Parse_1F ((strings_CutF ((strings_CutF v0 (⟨#[44]⟩ : ByteArray)).1) (⟨#[61]⟩ : ByteArray)).1) ((strings_CutF ((strings_CutF v0 (⟨#[44]⟩ : ByteArray)).1) (⟨#[61]⟩ : ByteArray)).2.1))]) (g - 1)).All Q
        unfold topo_Term_4LT at hT ⊢
        rw [hF] at hT
        rw [show g = (g - 1) + 1 from by omega] at hT
        exact hT
  · have hF : topo_Term_4LF (g + 1) v0 v1 v2 = (false, v2) := by simp only [topo_Term_4LF, h0, cond_true, cond_false]
    unfold topo_Term_4LT at hT
    rw [hF] at hT
    exact hT.2 rfl
def topo_Term_4F (a0 : ByteArray) : Bool × List XTerm :=
  cond ((topo_Term_4LF ((a0.size + 1) + 1) a0 (!(decide (a0 = (⟨#[]⟩ : ByteArray)))) []).1)
    (false, [])
    (true, (topo_Term_4LF ((a0.size + 1) + 1) a0 (!(decide (a0 = (⟨#[]⟩ : ByteArray)))) []).2)
def topo_Term_4R (a0 : ByteArray) : RT :=
  (.ask ((topo_Term_4LF ((a0.size + 1) + 1) a0 (!(decide (a0 = (⟨#[]⟩ : ByteArray)))) []).1)
    (.leaf .ret ⟨slots 37 [(4, .vec 0), (5, .bool false)], [.vec true ⟨.term, []⟩]⟩ [])
    (.leaf .ret ⟨slots 37 [(4, .vec 0), (5, .bool true)], [.vec true ⟨.term, (topo_Term_4LF ((a0.size + 1) + 1) a0 (!(decide (a0 = (⟨#[]⟩ : ByteArray)))) []).2⟩]⟩ []))
theorem topo_Term_4F_tr (a0 : ByteArray) (hp0 : a0.size ≤ 4294967280) : Tr Tryd.prog 0 (bodyOf Tryd.f34) (fnBegins Tryd.f34 [.str a0, .fn 35 []] []) (fnEnds Tryd.prog Tryd.f34 (.tup [.vec 0, .bool ((topo_Term_4F a0).1)]) [.vec true ⟨.term, (topo_Term_4F a0).2⟩]) := by
  refine Tr_tree (kok _ _ _ _ _ _) (E := E_topo_Term_4) (L := (loopsOf [(0, topo_Term_4LS a0 a0 (!(decide (a0 = (⟨#[]⟩ : ByteArray)))) [] (a0.size + 1), [1], topo_Term_4LT a0 a0 (!(decide (a0 = (⟨#[]⟩ : ByteArray)))) [] (a0.size + 1))])) 60 9999 (LoopsOk.one (g := loopAt Tryd.f34 0) (b := 0) (by kernel_rfl) (by kernel_rfl) (by kernel_rfl) (by kernel_rfl) (fun Q h => topo_Term_4L_loop a0 hp0 ⟨(a0, !(decide (a0 = (⟨#[]⟩ : ByteArray))), [], (a0.size + 1)), ⟨partsMu_le _ _, by rw [List.length_nil, Nat.zero_add]; exact partsMu_le _ _⟩⟩ Q h)) (topo_Term_4R a0) (by kernel_rfl) (by kernel_rfl) (by kernel_rfl) ?_
  unfold topo_Term_4R
  refine ⟨fun h0 => ?_, fun h0 => ?_⟩
  · have hF : topo_Term_4F a0 = (false, []) := by first | exact (cond_t h0 rfl) | simp only [topo_Term_4F, h0, cond_true, cond_false]
    exact ⟨trivial, .inl (by first | (rw [hF]; kernel_rfl) | kernel_rfl), by first | (rw [hF]; kernel_rfl) | kernel_rfl⟩
  · have hF : topo_Term_4F a0 = (true, (topo_Term_4LF ((a0.size + 1) + 1) a0 (!(decide (a0 = (⟨#[]⟩ : ByteArray)))) []).2) := by first | exact (cond_f h0 rfl) | simp only [topo_Term_4F, h0, cond_true, cond_false]
    exact ⟨trivial, .inl (by first | (rw [hF]; kernel_rfl) | kernel_rfl), by first | (rw [hF]; kernel_rfl) | kernel_rfl⟩
noncomputable def topo_Term_4_fact : Fact Tryd.prog := factOf 34 Tryd.f34 (by kernel_rfl) rfl (by kernel_rfl) [.c (.str), .c (.fn 35)] [] false (fun t u => .tup [.vec 0, .bool ((topo_Term_4F t.1).1)]) (fun t u => [.vec true ⟨.term, (topo_Term_4F t.1).2⟩]) (fun t u => [t.1.size ≤ 4294967280])
  (nofun) (fun t u => by kernel_rfl) (fun t u => by kernel_rfl) (fun t u h => topo_Term_4F_tr t.1 (h _ List.mem_cons_self))
noncomputable def E_topo_Parse : Env := envOf (P := Tryd.prog) [topo_Term_4_fact, topo_right_fact] [] [] ckf
theorem topo_Term_4L_good (N : Nat) (hN : N ≤ 4294967280) : ∀ (n : Nat) (v0 : ByteArray) (v1 : Bool) (v2 : List XTerm), v0.size ≤ N → v2.length + partsMu v1 v0 ≤ N + 1 → (∀ q ∈ v2, q.Fine) → (topo_Term_4LF n v0 v1 v2).2.length ≤ N + 1 ∧ ∀ q ∈ (topo_Term_4LF n v0 v1 v2).2, q.Fine
  | 0, _, _, _, _, _, _ => ⟨Nat.zero_le _, fun q hq => by simp [topo_Term_4LF] at hq; cases hq⟩
  | n + 1, v0, false, v2, h0, h1, h2 => by
    unfold topo_Term_4LF
    exact ⟨by have : partsMu false v0 = 0 := rfl
              show v2.length ≤ N + 1
              omega, h2⟩
  | n + 1, v0, true, v2, h0, h1, h2 => by
    rw [partsMu_true] at h1
    have hmc := partsMu_cut v0 (⟨#[44]⟩ : ByteArray) rfl (by omega)
    have hc2 := cut_size v0 (⟨#[44]⟩ : ByteArray) rfl (by omega)
    have hc1 := cut_size (strings_CutF v0 (⟨#[44]⟩ : ByteArray)).1 (⟨#[61]⟩ : ByteArray) rfl (by omega)
    unfold topo_Term_4LF
    rw [cond_true]
    cases (!((strings_CutF ((strings_CutF v0 (⟨#[44]⟩ : ByteArray)).1) (⟨#[61]⟩ : ByteArray)).2.2)) with
    | true => exact ⟨Nat.zero_le _, fun q hq => by simp at hq; cases hq⟩
    | false =>
      rw [cond_false]
      refine topo_Term_4L_good N hN n _ _ _ (by omega) (by rw [List.length_append, List.length_cons, List.length_nil]; omega) fun q hq => ?_
      rcases List.mem_append.1 hq with hq | hq
      · exact h2 q hq
      · rw [List.mem_singleton.1 hq]
        exact ⟨by show (strings_CutF _ _).1.size < _; omega, by show (split1 _ _).length < _; have h9 := split1_len (strings_CutF (strings_CutF v0 (⟨#[44]⟩ : ByteArray)).1 (⟨#[61]⟩ : ByteArray)).2.1 (⟨#[124]⟩ : ByteArray) rfl; omega, fun x hx => by have h9 := split1_size _ _ x hx; omega⟩
theorem topo_Term_4_good (s : ByteArray) (h : s.size ≤ 4294967280) : (topo_Term_4F s).2.length ≤ 4294967296 ∧ ∀ q ∈ (topo_Term_4F s).2, q.Fine := by
  have h1 := topo_Term_4L_good s.size h (s.size + 1 + 1) s (!(decide (s = (⟨#[]⟩ : ByteArray)))) [] (Nat.le_refl _) (by rw [List.length_nil, Nat.zero_add]; exact partsMu_le _ _) (fun q hq => by simp at hq)
  unfold topo_Term_4F
  cases (topo_Term_4LF ((s.size + 1) + 1) s (!(decide (s = (⟨#[]⟩ : ByteArray)))) []).1 with
  | true => exact ⟨Nat.zero_le _, fun q hq => by simp at hq⟩
  | false => exact ⟨Nat.le_trans h1.1 (by omega), h1.2⟩
def topo_ParseF (a0 : ByteArray) : Int × List XTerm :=
  cond (cond (!((topo_Term_4F a0).1)) true (!(topo_rightF ((topo_Term_4F a0).2))))
    ((2 : Int), [])
    ((0 : Int), (topo_Term_4F a0).2)
def topo_ParseR (a0 : ByteArray) : RT :=
  (.need [a0.size ≤ 4294967280]
    (.need [((!((topo_Term_4F a0).1)) = false) → (((topo_Term_4F a0).2).length ≤ 4294967296), ((!((topo_Term_4F a0).1)) = false) → (∀ q ∈ ((topo_Term_4F a0).2), q.Fine)]
      (.ask (cond (!((topo_Term_4F a0).1)) true (!(topo_rightF ((topo_Term_4F a0).2))))
        (.leaf .ret ⟨slots 19 [(2, .vec 0), (3, .int .i64 2)], [.vec true ⟨.term, []⟩]⟩ [2])
        (.leaf .ret ⟨slots 19 [(2, .vec 0), (3, .int .i64 0)], [.vec true ⟨.term, (topo_Term_4F a0).2⟩]⟩ [1]))))
theorem topo_ParseF_tr (a0 : ByteArray) (hp0 : a0.size ≤ 4294967280) : Tr Tryd.prog 0 (bodyOf Tryd.f12) (fnBegins Tryd.f12 [.str a0] []) (fnEnds Tryd.prog Tryd.f12 (.tup [.vec 0, .int .i64 ((topo_ParseF a0).1)]) [.vec true ⟨.term, (topo_ParseF a0).2⟩]) := by
  refine Tr_tree (kok _ _ _ _ _ _) (E := E_topo_Parse) (L := noLoops) 60 9999 LoopsOk.none (topo_ParseR a0) (by kernel_rfl) (by kernel_rfl) (by kernel_rfl) ?_
  unfold topo_ParseR
  refine ⟨need_cons (by first | assumption | omega | (intro; omega) | (simp only [decide_eq_true_eq, decide_eq_false_iff_not, Bool.cond_false_right, Bool.cond_true_right, Bool.cond_true_left, Bool.cond_false_left, Bool.and_eq_true, Bool.or_eq_true, Bool.not_eq_true', bytesLim, maxLen, List.length_cons, List.length_nil, List.length_append, byteSize_lit] at *; omega) | (intro; simp only [decide_eq_true_eq, decide_eq_false_iff_not, Bool.cond_false_right, Bool.cond_true_right, Bool.cond_true_left, Bool.cond_false_left, Bool.and_eq_true, Bool.or_eq_true, Bool.not_eq_true', bytesLim, maxLen, List.length_cons, List.length_nil, List.length_append, byteSize_lit] at *; omega)) (need_nil), ?_⟩
  refine ⟨need_cons (by intro _; exact (topo_Term_4_good a0 hp0).1) (need_cons (by intro _; exact (topo_Term_4_good a0 hp0).2) (need_nil)), ?_⟩
  refine ⟨fun h0 => ?_, fun h0 => ?_⟩
  · have hF : topo_ParseF a0 = ((2 : Int), []) := by first | exact (cond_t h0 rfl) | simp only [topo_ParseF, h0, cond_true, cond_false]
    exact ⟨trivial, .inl (by first | (rw [hF]; kernel_rfl) | kernel_rfl), by first | (rw [hF]; kernel_rfl) | kernel_rfl⟩
  · have hF : topo_ParseF a0 = ((0 : Int), (topo_Term_4F a0).2) := by first | exact (cond_f h0 rfl) | simp only [topo_ParseF, h0, cond_true, cond_false]
    exact ⟨trivial, .inl (by first | (rw [hF]; kernel_rfl) | kernel_rfl), by first | (rw [hF]; kernel_rfl) | kernel_rfl⟩
noncomputable def topo_Parse_fact : Fact Tryd.prog := factOf 12 Tryd.f12 (by kernel_rfl) rfl (by kernel_rfl) [.c (.str)] [] false (fun t u => .tup [.vec 0, .int .i64 ((topo_ParseF t.1).1)]) (fun t u => [.vec true ⟨.term, (topo_ParseF t.1).2⟩]) (fun t u => [t.1.size ≤ 4294967280])
  (nofun) (fun t u => by kernel_rfl) (fun t u => by kernel_rfl) (fun t u h => topo_ParseF_tr t.1 (h _ List.mem_cons_self))
end Go.Proofs.YtbjlmmeabonbpaaDoor
