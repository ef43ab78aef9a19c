/- Attach: attachments. -/
import Derived.Test.YtbcnehpndoghcaaDGet
set_option linter.unusedVariables false
set_option linter.unusedSimpArgs false
set_option maxRecDepth 100000
namespace Go.Proofs.Ytbcnehpndoghcaa
open Go Go.Eng
noncomputable def E_attach_Attachments_1 : Env := envOf (P := Try.prog) [] [] [] ckf
def attach_Attachments_1F (a0 : XObj) : ByteArray :=
  a0.name
def attach_Attachments_1R (a0 : XObj) : RT :=
  (.leaf .ret ⟨slots 5 [(2, .str a0.name)], []⟩ [])
theorem attach_Attachments_1F_tr (a0 : XObj)  : Tr Try.prog 0 (bodyOf Try.f34) (fnBegins Try.f34 [.agg (oc a0)] []) (fnEnds Try.prog Try.f34 (.str (attach_Attachments_1F a0)) []) := by
  refine Tr_tree (kok _ _ _ _ _ _) (E := E_attach_Attachments_1) (L := noLoops) 60 9999 LoopsOk.none (attach_Attachments_1R a0) (by kernel_rfl) (by kernel_rfl) (by kernel_rfl) ?_
  unfold attach_Attachments_1R
  exact ⟨trivial, .inl (by kernel_rfl), by kernel_rfl⟩
noncomputable def attach_Attachments_1_fact : Fact Try.prog := factOf 34 Try.f34 (by kernel_rfl) rfl (by kernel_rfl) [.st .obj] [] true (fun t u => .str (attach_Attachments_1F t.1)) (fun t u => []) (fun t u => [])
  (fun _ _ _ => rfl) (fun t u => by kernel_rfl) (fun t u => by kernel_rfl) (fun t u h => attach_Attachments_1F_tr t.1 )
noncomputable def E_cmp_isNaN_string : Env := envOf (P := Try.prog) [] [] [] ckf
def cmp_isNaN_stringF (a0 : ByteArray) : Bool :=
  !(decide (a0 = a0))
def cmp_isNaN_stringR (a0 : ByteArray) : RT :=
  (.leaf .ret ⟨slots 6 [(2, .bool (!(decide (a0 = a0))))], []⟩ [])
theorem cmp_isNaN_stringF_tr (a0 : ByteArray)  : Tr Try.prog 0 (bodyOf Try.f65) (fnBegins Try.f65 [.str a0] []) (fnEnds Try.prog Try.f65 (.bool (cmp_isNaN_stringF a0)) []) := by
  refine Tr_tree (kok _ _ _ _ _ _) (E := E_cmp_isNaN_string) (L := noLoops) 60 9999 LoopsOk.none (cmp_isNaN_stringR a0) (by kernel_rfl) (by kernel_rfl) (by kernel_rfl) ?_
  unfold cmp_isNaN_stringR
  exact ⟨trivial, .inl (by kernel_rfl), by kernel_rfl⟩
noncomputable def cmp_isNaN_string_fact : Fact Try.prog := factOf 65 Try.f65 (by kernel_rfl) rfl (by kernel_rfl) [.c (.str)] [] true (fun t u => .bool (cmp_isNaN_stringF t.1)) (fun t u => []) (fun t u => [])
  (fun _ _ _ => rfl) (fun t u => by kernel_rfl) (fun t u => by kernel_rfl) (fun t u h => cmp_isNaN_stringF_tr t.1 )
noncomputable def E_cmp_Compare_string : Env := envOf (P := Try.prog) [cmp_isNaN_string_fact] [] [] ckf
def cmp_Compare_stringF (a0 : ByteArray) (a1 : ByteArray) : Int :=
  cond (cmp_isNaN_stringF a0)
    (cond (cmp_isNaN_stringF a1)
      (0 : Int)
      (-1 : Int))
    (cond (cmp_isNaN_stringF a1)
      (1 : Int)
      (cond (strLess a0 a1)
        (-1 : Int)
        (cond (!(strLess a0 a1 || decide (a0 = a1)))
          (1 : Int)
          (0 : Int))))
def cmp_Compare_stringR (a0 : ByteArray) (a1 : ByteArray) : RT :=
  (.ask (cmp_isNaN_stringF a0)
    (.ask (cmp_isNaN_stringF a1)
      (.leaf .ret ⟨slots 20 [(4, .int .i64 0)], []⟩ [])
      (.leaf .ret ⟨slots 20 [(4, .int .i64 (-1))], []⟩ []))
    (.ask (cmp_isNaN_stringF a1)
      (.leaf .ret ⟨slots 20 [(4, .int .i64 1)], []⟩ [])
      (.ask (strLess a0 a1)
        (.leaf .ret ⟨slots 20 [(4, .int .i64 (-1))], []⟩ [])
        (.ask (!(strLess a0 a1 || decide (a0 = a1)))
          (.leaf .ret ⟨slots 20 [(4, .int .i64 1)], []⟩ [])
          (.leaf .ret ⟨slots 20 [(4, .int .i64 0)], []⟩ [])))))
theorem cmp_Compare_stringF_tr (a0 : ByteArray) (a1 : ByteArray)  : Tr Try.prog 0 (bodyOf Try.f58) (fnBegins Try.f58 [.str a0, .str a1] []) (fnEnds Try.prog Try.f58 (.int .i64 (cmp_Compare_stringF a0 a1)) []) := by
  refine Tr_tree (kok _ _ _ _ _ _) (E := E_cmp_Compare_string) (L := noLoops) 60 9999 LoopsOk.none (cmp_Compare_stringR a0 a1) (by kernel_rfl) (by kernel_rfl) (by kernel_rfl) ?_
  unfold cmp_Compare_stringR
  refine ⟨fun h0 => ?_, fun h0 => ?_⟩
  · refine ⟨fun h1 => ?_, fun h1 => ?_⟩
    · have hF : cmp_Compare_stringF a0 a1 = (0 : Int) := by first | exact (cond_t h0 (cond_t h1 rfl)) | simp only [cmp_Compare_stringF, h0, h1, cond_true, cond_false]
      exact ⟨trivial, .inl (by first | (rw [hF]; kernel_rfl) | kernel_rfl), by first | (rw [hF]; kernel_rfl) | kernel_rfl⟩
    · have hF : cmp_Compare_stringF a0 a1 = (-1 : Int) := by first | exact (cond_t h0 (cond_f h1 rfl)) | simp only [cmp_Compare_stringF, h0, h1, cond_true, cond_false]
      exact ⟨trivial, .inl (by first | (rw [hF]; kernel_rfl) | kernel_rfl), by first | (rw [hF]; kernel_rfl) | kernel_rfl⟩
  · refine ⟨fun h1 => ?_, fun h1 => ?_⟩
    · have hF : cmp_Compare_stringF a0 a1 = (1 : Int) := by first | exact (cond_f h0 (cond_t h1 rfl)) | simp only [cmp_Compare_stringF, h0, h1, cond_true, cond_false]
      exact ⟨trivial, .inl (by first | (rw [hF]; kernel_rfl) | kernel_rfl), by first | (rw [hF]; kernel_rfl) | kernel_rfl⟩
    · refine ⟨fun h2 => ?_, fun h2 => ?_⟩
      · have hF : cmp_Compare_stringF a0 a1 = (-1 : Int) := by first | exact (cond_f h0 (cond_f h1 (cond_t h2 rfl))) | simp only [cmp_Compare_stringF, h0, h1, h2, cond_true, cond_false]
        exact ⟨trivial, .inl (by first | (rw [hF]; kernel_rfl) | kernel_rfl), by first | (rw [hF]; kernel_rfl) | kernel_rfl⟩
      · refine ⟨fun h3 => ?_, fun h3 => ?_⟩
        · have hF : cmp_Compare_stringF a0 a1 = (1 : Int) := by first | exact (cond_f h0 (cond_f h1 (cond_f h2 (cond_t h3 rfl)))) | simp only [cmp_Compare_stringF, h0, h1, h2, h3, cond_true, cond_false]
          exact ⟨trivial, .inl (by first | (rw [hF]; kernel_rfl) | kernel_rfl), by first | (rw [hF]; kernel_rfl) | kernel_rfl⟩
        · have hF : cmp_Compare_stringF a0 a1 = (0 : Int) := by first | exact (cond_f h0 (cond_f h1 (cond_f h2 (cond_f h3 rfl)))) | simp only [cmp_Compare_stringF, h0, h1, h2, h3, cond_true, cond_false]
          exact ⟨trivial, .inl (by first | (rw [hF]; kernel_rfl) | kernel_rfl), by first | (rw [hF]; kernel_rfl) | kernel_rfl⟩
noncomputable def cmp_Compare_string_fact : Fact Try.prog := factOf 58 Try.f58 (by kernel_rfl) rfl (by kernel_rfl) [.c (.str), .c (.str)] [] true (fun t u => .int .i64 (cmp_Compare_stringF t.1 t.2.1)) (fun t u => []) (fun t u => [])
  (fun _ _ _ => rfl) (fun t u => by kernel_rfl) (fun t u => by kernel_rfl) (fun t u h => cmp_Compare_stringF_tr t.1 t.2.1 )
noncomputable def E_api_Object_string_1 : Env := envOf (P := Try.prog) [attach_Attachments_1_fact, cmp_Compare_string_fact] [] [] ckf
def api_Object_string_1F (a0 : XObj) (a1 : ByteArray) : Int :=
  (cmp_Compare_stringF (attach_Attachments_1F a0) a1)
def api_Object_string_1R (a0 : XObj) (a1 : ByteArray) : RT :=
  (.leaf .ret ⟨slots 11 [(5, .int .i64 (cmp_Compare_stringF (attach_Attachments_1F a0) a1))], [.cells 71 [.fn 34 []]]⟩ [])
theorem api_Object_string_1F_tr (a0 : XObj) (a1 : ByteArray)  : Tr Try.prog 1 (bodyOf Try.f61) (fnBegins Try.f61 [.agg (oc a0), .str a1, .ptr 0 0] [.cells 71 [.fn 34 []]]) (fnEnds Try.prog Try.f61 (.int .i64 (api_Object_string_1F a0 a1)) [.cells 71 [.fn 34 []]]) := by
  refine Tr_tree (kok _ _ _ _ _ _) (E := E_api_Object_string_1) (L := noLoops) 60 9999 LoopsOk.none (api_Object_string_1R a0 a1) (by kernel_rfl) (by kernel_rfl) (by kernel_rfl) ?_
  unfold api_Object_string_1R
  exact ⟨trivial, .inl (by kernel_rfl), by kernel_rfl⟩
noncomputable def api_Object_string_1_fact : Fact Try.prog := factOf 61 Try.f61 (by kernel_rfl) rfl (by kernel_rfl) [.st .obj, .c (.str), .c (.ptr 0 0)] [.cells 71 [.fn 34]] true (fun t u => .int .i64 (api_Object_string_1F t.1 t.2.1)) (fun t u => HPL.enc _ u) (fun t u => [])
  (fun _ _ _ => rfl) (fun t u => by kernel_rfl) (fun t u => by kernel_rfl) (fun t u h => api_Object_string_1F_tr t.1 t.2.1 )
noncomputable def E_api_Object_string_2 : Env := envOf (P := Try.prog) [api_Object_string_1_fact] [] [] ckf
def api_Object_string_2LF (a1 : ByteArray) (b0 : List XObj) : Nat → Int → Int → Int
  | 0, _, _ => default
  | n + 1, v2, v3 => cond (decide (v2 < v3))
    (cond (decide ((api_Object_string_1F (b0.getD ((IntKind.i64.wrap ((IntKind.u64.wrap (IntKind.i64.wrap (v2 + v3))) / 2)).toNat) default) a1) < (0 : Int)))
      (api_Object_string_2LF a1 b0 n (IntKind.i64.wrap ((IntKind.i64.wrap ((IntKind.u64.wrap (IntKind.i64.wrap (v2 + v3))) / 2)) + (1 : Int))) v3)
      (api_Object_string_2LF a1 b0 n v2 (IntKind.i64.wrap ((IntKind.u64.wrap (IntKind.i64.wrap (v2 + v3))) / 2))))
    v2
def api_Object_string_2LS (a1 : ByteArray) (b0 : List XObj) (v2 : Int) (v3 : Int) (g : Nat) : St :=
  ⟨slots 49 [(0, .vec 0), (1, .str a1), (2, .fn 61 [.ptr 1 0]), (8, .int .i64 (b0.length : Int)), (9, .int .i64 v2), (10, .int .i64 v3)], [.vec false ⟨.obj, b0⟩, .cells 71 [.fn 34 []]]⟩
def api_Object_string_2LR (a1 : ByteArray) (b0 : List XObj) (v2 : Int) (v3 : Int) (g : Nat) : RT :=
  (.ask (decide (v2 < v3))
    (.need [0 ≤ (IntKind.i64.wrap ((IntKind.u64.wrap (IntKind.i64.wrap (v2 + v3))) / 2)) ∧ (IntKind.i64.wrap ((IntKind.u64.wrap (IntKind.i64.wrap (v2 + v3))) / 2)) < (b0.length : Int)]
      (.ask (decide ((api_Object_string_1F (b0.getD ((IntKind.i64.wrap ((IntKind.u64.wrap (IntKind.i64.wrap (v2 + v3))) / 2)).toNat) default) a1) < (0 : Int)))
        (.leaf .normal ⟨slots 49 [(0, .vec 0), (1, .str a1), (2, .fn 61 [.ptr 1 0]), (8, .int .i64 (b0.length : Int)), (9, .int .i64 (IntKind.i64.wrap ((IntKind.i64.wrap ((IntKind.u64.wrap (IntKind.i64.wrap (v2 + v3))) / 2)) + (1 : Int)))), (10, .int .i64 v3)], [.vec false ⟨.obj, b0⟩, .cells 71 [.fn 34 []]]⟩ [])
        (.leaf .normal ⟨slots 49 [(0, .vec 0), (1, .str a1), (2, .fn 61 [.ptr 1 0]), (8, .int .i64 (b0.length : Int)), (9, .int .i64 v2), (10, .int .i64 (IntKind.i64.wrap ((IntKind.u64.wrap (IntKind.i64.wrap (v2 + v3))) / 2)))], [.vec false ⟨.obj, b0⟩, .cells 71 [.fn 34 []]]⟩ [])))
    (.leaf (.exit 0) ⟨slots 49 [(0, .vec 0), (1, .str a1), (2, .fn 61 [.ptr 1 0]), (8, .int .i64 (b0.length : Int)), (9, .int .i64 v2)], [.vec false ⟨.obj, b0⟩, .cells 71 [.fn 34 []]]⟩ []))
def api_Object_string_2LT (a1 : ByteArray) (b0 : List XObj) (v2 : Int) (v3 : Int) (g : Nat) : Tree :=
  .leaf (.exit 0) ⟨slots 49 [(0, .vec 0), (1, .str a1), (2, .fn 61 [.ptr 1 0]), (8, .int .i64 (b0.length : Int)), (9, .int .i64 (api_Object_string_2LF a1 b0 (g + 1) v2 v3))], [.vec false ⟨.obj, b0⟩, .cells 71 [.fn 34 []]]⟩
theorem api_Object_string_2L_loop (a1 : ByteArray) (b0 : List XObj) (hp0 : b0.length < 4611686018427387904) (z : { z : Int × Int × Nat // 0 ≤ z.1 ∧ z.1 ≤ z.2.1 ∧ z.2.1 ≤ (b0.length : Int) ∧ z.2.1 - z.1 ≤ (z.2.2 : Int) }) (Q : Exit → St → Prop) (h : (api_Object_string_2LT a1 b0 z.1.1 z.1.2.1 z.1.2.2).All Q) : Tr Try.prog 2 (.loop (loopAt Try.f60 0)) (api_Object_string_2LS a1 b0 z.1.1 z.1.2.1 z.1.2.2) Q := by
  refine Tr_loopT (kok _ _ _ _ _ _) (E := E_api_Object_string_2) (ι := { z : Int × Int × Nat // 0 ≤ z.1 ∧ z.1 ≤ z.2.1 ∧ z.2.1 ≤ (b0.length : Int) ∧ z.2.1 - z.1 ≤ (z.2.2 : Int) }) 60 0 (fun _ => noLoops) (fun z => api_Object_string_2LS a1 b0 z.1.1 z.1.2.1 z.1.2.2) (fun z => api_Object_string_2LT a1 b0 z.1.1 z.1.2.1 z.1.2.2) (fun z => api_Object_string_2LR a1 b0 z.1.1 z.1.2.1 z.1.2.2) (fun z => z.1.2.2) (fun _ => LoopsOk.none) (fun z => by obtain ⟨⟨v2, v3, g⟩, hi⟩ := z; kernel_rfl) (fun z => by obtain ⟨⟨v2, v3, g⟩, hi⟩ := z; kernel_rfl) (fun z => by obtain ⟨⟨v2, v3, g⟩, hi⟩ := z; kernel_rfl) ?_ z Q h
  rintro ⟨⟨v2, v3, g⟩, hi⟩ Q hT
  replace hT : (api_Object_string_2LT a1 b0 v2 v3 g).All Q := hT
  replace hi : 0 ≤ v2 ∧ v2 ≤ v3 ∧ v3 ≤ (b0.length : Int) ∧ v3 - v2 ≤ (g : Int) := hi
  show (api_Object_string_2LR a1 b0 v2 v3 g).All _
  unfold api_Object_string_2LR
  refine ⟨fun h0 => ?_, fun h0 => ?_⟩
  · refine ⟨need_cons (by have h9 : v2 < v3 := (by simpa using h0); have hm := mid_eq hi.1 h9 (by omega); simp only [hm.1, hm.2]; omega) (need_nil), ?_⟩
    refine ⟨fun h1 => ?_, fun h1 => ?_⟩
    · have h9 := h0
      simp only [decide_eq_true_eq, decide_eq_false_iff_not] at h9
      have hF : api_Object_string_2LF a1 b0 (g + 1) v2 v3 = api_Object_string_2LF a1 b0 (g) (IntKind.i64.wrap ((IntKind.i64.wrap ((IntKind.u64.wrap (IntKind.i64.wrap (v2 + v3))) / 2)) + (1 : Int))) v3 := by simp only [api_Object_string_2LF, h0, h1, cond_true, cond_false]
      refine ⟨⟨((IntKind.i64.wrap ((IntKind.i64.wrap ((IntKind.u64.wrap (IntKind.i64.wrap (v2 + v3))) / 2)) + (1 : Int))), v3, (g - 1)), by have hm := mid_eq hi.1 h9 (by omega); simp only [hm.1, hm.2]; omega⟩, by show (g - 1) < g; omega, ?_, ?_⟩
      · show _ = api_Object_string_2LS a1 b0 (IntKind.i64.wrap ((IntKind.i64.wrap ((IntKind.u64.wrap (IntKind.i64.wrap (v2 + v3))) / 2)) + (1 : Int))) v3 (g - 1)
        unfold api_Object_string_2LS
        rfl
      · show (api_Object_string_2LT a1 b0 (IntKind.i64.wrap ((IntKind.i64.wrap ((IntKind.u64.wrap (IntKind.i64.wrap (v2 + v3))) / 2)) + (1 : Int))) v3 (g - 1)).All Q
        unfold api_Object_string_2LT at hT ⊢
        rw [hF] at hT
        rw [show g = (g - 1) + 1 from by omega] at hT
        exact hT
    · have h9 := h0
      simp only [decide_eq_true_eq, decide_eq_false_iff_not] at h9
      have hF : api_Object_string_2LF a1 b0 (g + 1) v2 v3 = api_Object_string_2LF a1 b0 (g) v2 (IntKind.i64.wrap ((IntKind.u64.wrap (IntKind.i64.wrap (v2 + v3))) / 2)) := by simp only [api_Object_string_2LF, h0, h1, cond_true, cond_false]
      refine ⟨⟨(v2, (IntKind.i64.wrap ((IntKind.u64.wrap (IntKind.i64.wrap (v2 + v3))) / 2)), (g - 1)), by have hm := mid_eq hi.1 h9 (by omega); simp only [hm.1, hm.2]; omega⟩, by show (g - 1) < g; omega, ?_, ?_⟩
      · show _ = api_Object_string_2LS a1 b0 v2 (IntKind.i64.wrap ((IntKind.u64.wrap (IntKind.i64.wrap (v2 + v3))) / 2)) (g - 1)
        unfold api_Object_string_2LS
        rfl
      · show (api_Object_string_2LT a1 b0 v2 (IntKind.i64.wrap ((IntKind.u64.wrap (IntKind.i64.wrap (v2 + v3))) / 2)) (g - 1)).All Q
        unfold api_Object_string_2LT at hT ⊢
        rw [hF] at hT
        rw [show g = (g - 1) + 1 from by omega] at hT
        exact hT
  · have hF : api_Object_string_2LF a1 b0 (g + 1) v2 v3 = v2 := by simp only [api_Object_string_2LF, h0, cond_true, cond_false]
    unfold api_Object_string_2LT at hT
    rw [hF] at hT
    exact hT
theorem api_Object_string_2_range (a1 : ByteArray) (b0 : List XObj) : ∀ (n : Nat) (i j : Int), 0 ≤ i → i ≤ j → j ≤ 4611686018427387904 → j - i ≤ n → 0 ≤ api_Object_string_2LF a1 b0 (n + 1) i j ∧ api_Object_string_2LF a1 b0 (n + 1) i j ≤ j := by
  intro n
  induction n with
  | zero =>
    intro i j h1 h2 h3 h4
    have h5 : decide (i < j) = false := decide_eq_false (by omega)
    unfold api_Object_string_2LF
    rw [h5]
    exact ⟨h1, h2⟩
  | succ n ih =>
    intro i j h1 h2 h3 h4
    unfold api_Object_string_2LF
    by_cases h5 : i < j
    · have hm := mid_eq h1 h5 h3
      rw [decide_eq_true h5, hm.1, hm.2]
      simp only [cond_true]
      cases decide (api_Object_string_1F (b0.getD ((i + j) / 2).toNat default) a1 < (0 : Int))
      · have := ih i ((i + j) / 2) h1 (by omega) (by omega) (by omega)
        exact ⟨this.1, by have h6 := this.2; simp only [cond_false]; omega⟩
      · exact ih _ _ (by omega) (by omega) h3 (by omega)
    · rw [decide_eq_false h5]
      exact ⟨h1, h2⟩
def api_Object_string_2F (a1 : ByteArray) (b0 : List XObj) : Int × Bool :=
  ((api_Object_string_2LF a1 b0 (b0.length + 1) (0 : Int) (b0.length : Int)), cond (decide ((api_Object_string_2LF a1 b0 (b0.length + 1) (0 : Int) (b0.length : Int)) < (b0.length : Int))) ((api_Object_string_1F (b0.getD ((api_Object_string_2LF a1 b0 (b0.length + 1) (0 : Int) (b0.length : Int)).toNat) default) a1) == (0 : Int)) false)
def api_Object_string_2R (a1 : ByteArray) (b0 : List XObj) : RT :=
  (.need [((decide ((api_Object_string_2LF a1 b0 (b0.length + 1) (0 : Int) (b0.length : Int)) < (b0.length : Int))) = true) → (0 ≤ (api_Object_string_2LF a1 b0 (b0.length + 1) (0 : Int) (b0.length : Int)) ∧ (api_Object_string_2LF a1 b0 (b0.length + 1) (0 : Int) (b0.length : Int)) < (b0.length : Int))]
    (.leaf .ret ⟨slots 49 [(6, .int .i64 (api_Object_string_2LF a1 b0 (b0.length + 1) (0 : Int) (b0.length : Int))), (7, .bool (cond (decide ((api_Object_string_2LF a1 b0 (b0.length + 1) (0 : Int) (b0.length : Int)) < (b0.length : Int))) ((api_Object_string_1F (b0.getD ((api_Object_string_2LF a1 b0 (b0.length + 1) (0 : Int) (b0.length : Int)).toNat) default) a1) == (0 : Int)) false))], [.vec false ⟨.obj, b0⟩, .cells 71 [.fn 34 []]]⟩ []))
theorem api_Object_string_2F_tr (a1 : ByteArray) (b0 : List XObj) (hp0 : b0.length < 4611686018427387904) : Tr Try.prog 2 (bodyOf Try.f60) (fnBegins Try.f60 [.vec 0, .str a1, .fn 61 [.ptr 1 0]] [.vec false ⟨.obj, b0⟩, .cells 71 [.fn 34 []]]) (fnEnds Try.prog Try.f60 (.tup [.int .i64 ((api_Object_string_2F a1 b0).1), .bool ((api_Object_string_2F a1 b0).2)]) [.vec false ⟨.obj, b0⟩, .cells 71 [.fn 34 []]]) := by
  refine Tr_tree (kok _ _ _ _ _ _) (E := E_api_Object_string_2) (L := (loopsOf [(0, api_Object_string_2LS a1 b0 (0 : Int) (b0.length : Int) b0.length, [], api_Object_string_2LT a1 b0 (0 : Int) (b0.length : Int) b0.length)])) 60 9999 (LoopsOk.one (g := loopAt Try.f60 0) (b := 0) (by kernel_rfl) (by kernel_rfl) (by kernel_rfl) (by kernel_rfl) (fun Q h => api_Object_string_2L_loop a1 b0 hp0 ⟨((0 : Int), (b0.length : Int), b0.length), by first | exact Nat.zero_le _ | (show 0 ≤ (0 : Int) ∧ (0 : Int) ≤ (b0.length : Int) ∧ (b0.length : Int) ≤ (b0.length : Int) ∧ (b0.length : Int) - (0 : Int) ≤ (b0.length : Int); omega) | (show 0 ≤ (0 : Int) ∧ (0 : Int) ≤ (b0.length : Int) ∧ (b0.length : Int) ≤ (b0.length : Int) ∧ (b0.length : Int) - (0 : Int) ≤ (b0.length : Int); exact ⟨Nat.zero_le _, by assumption⟩) | (show 0 ≤ (0 : Int) ∧ (0 : Int) ≤ (b0.length : Int) ∧ (b0.length : Int) ≤ (b0.length : Int) ∧ (b0.length : Int) - (0 : Int) ≤ (b0.length : Int); simp)⟩ Q h)) (api_Object_string_2R a1 b0) (by kernel_rfl) (by kernel_rfl) (by kernel_rfl) ?_
  unfold api_Object_string_2R
  refine ⟨need_cons (by intro h8; have h9 := api_Object_string_2_range a1 b0 b0.length 0 b0.length (by omega) (by omega) (by omega) (by omega); simp only [decide_eq_true_eq] at h8; exact ⟨h9.1, h8⟩) (need_nil), ?_⟩
  exact ⟨trivial, .inl (by kernel_rfl), by kernel_rfl⟩
noncomputable def api_Object_string_2_fact : Fact Try.prog := factOf 60 Try.f60 (by kernel_rfl) rfl (by kernel_rfl) [.c (.vec 0), .c (.str), .fn 61 [.ptr 1 0]] [.vec false .obj, .cells 71 [.fn 34]] true (fun t u => .tup [.int .i64 ((api_Object_string_2F t.2.1 u.1).1), .bool ((api_Object_string_2F t.2.1 u.1).2)]) (fun t u => HPL.enc _ u) (fun t u => [u.1.length < 4611686018427387904])
  (fun _ _ _ => rfl) (fun t u => by kernel_rfl) (fun t u => by kernel_rfl) (fun t u h => api_Object_string_2F_tr t.2.1 u.1 (h _ List.mem_cons_self))
noncomputable def E_api_Object_string : Env := envOf (P := Try.prog) [attach_Attachments_1_fact, api_Object_string_2_fact, insO_fact] [] [] ckf true
def api_Object_stringF (a1 : XObj) (b0 : List XObj) : List XObj :=
  cond ((api_Object_string_2F (attach_Attachments_1F a1) b0).2)
    b0
    (b0.take ((api_Object_string_2F (attach_Attachments_1F a1) b0).1).toNat ++ ([a1] ++ b0.drop ((api_Object_string_2F (attach_Attachments_1F a1) b0).1).toNat))
def api_Object_stringR (a1 : XObj) (b0 : List XObj) : RT :=
  (.need [b0.length < 4611686018427387904]
    (.ask ((api_Object_string_2F (attach_Attachments_1F a1) b0).2)
      (.leaf .ret ⟨slots 25 [(6, .vec 0)], [.vec false ⟨.obj, b0⟩]⟩ [])
      (.need [0 ≤ ((api_Object_string_2F (attach_Attachments_1F a1) b0).1) ∧ ((api_Object_string_2F (attach_Attachments_1F a1) b0).1) ≤ (b0.length : Int) ∧ (b0.length + 1) * 192 ≤ bytesLim ∧ b0.length + 1 ≤ maxLen]
        (.leaf .ret ⟨slots 25 [(6, .vec 1)], [.dead, .vec false ⟨.obj, (b0.take ((api_Object_string_2F (attach_Attachments_1F a1) b0).1).toNat ++ ([a1] ++ b0.drop ((api_Object_string_2F (attach_Attachments_1F a1) b0).1).toNat))⟩]⟩ [0, 5]))))
theorem api_Object_stringF_tr (a1 : XObj) (b0 : List XObj) (hp0 : b0.length ≤ 64) : Tr Try.prog 1 (bodyOf Try.f33) (fnBegins Try.f33 [.vec 0, .agg (oc a1), .fn 34 []] [.vec false ⟨.obj, b0⟩]) (fnEnds Try.prog Try.f33 (.vec 1) [.dead, .vec false ⟨.obj, api_Object_stringF a1 b0⟩]) := by
  refine Tr.post ?_
  refine Tr_tree (kok _ _ _ _ _ _) (E := E_api_Object_string) (L := noLoops) 60 9999 LoopsOk.none (api_Object_stringR a1 b0) (by kernel_rfl) (by kernel_rfl) (by kernel_rfl) ?_
  unfold api_Object_stringR
  refine ⟨need_cons (by omega) (need_nil), ?_⟩
  refine ⟨fun h0 => ?_, fun h0 => ?_⟩
  · have hF : api_Object_stringF a1 b0 = b0 := by first | exact (cond_t h0 rfl) | simp only [api_Object_stringF, h0, cond_true, cond_false]
    exact ⟨_, Turn.move 0 1 rfl (by simp), trivial, .inl (by first | (rw [hF]; kernel_rfl) | kernel_rfl), by first | (rw [hF]; kernel_rfl) | kernel_rfl⟩
  · refine ⟨need_cons (by have h9 := api_Object_string_2_range (attach_Attachments_1F a1) b0 b0.length 0 b0.length (by omega) (by omega) (by omega) (by omega); exact ⟨h9.1, h9.2, by unfold bytesLim; omega, by unfold maxLen; omega⟩) (need_nil), ?_⟩
    have hF : api_Object_stringF a1 b0 = (b0.take ((api_Object_string_2F (attach_Attachments_1F a1) b0).1).toNat ++ ([a1] ++ b0.drop ((api_Object_string_2F (attach_Attachments_1F a1) b0).1).toNat)) := by first | exact (cond_f h0 rfl) | simp only [api_Object_stringF, h0, cond_true, cond_false]
    exact ⟨_, Turn.refl _ _, trivial, .inl (by first | (rw [hF]; kernel_rfl) | kernel_rfl), by first | (rw [hF]; kernel_rfl) | kernel_rfl⟩
noncomputable def api_Object_string_fact : Fact Try.prog := factOf 33 Try.f33 (by kernel_rfl) rfl (by kernel_rfl) [.c (.vec 0), .st .obj, .c (.fn 34)] [.vec false .obj] false (fun t u => .vec 1) (fun t u => [.dead, .vec false ⟨.obj, api_Object_stringF t.2.1 u.1⟩]) (fun t u => [u.1.length ≤ 64])
  (nofun) (fun t u => by kernel_rfl) (fun t u => by kernel_rfl) (fun t u h => api_Object_stringF_tr t.2.1 u.1 (h _ List.mem_cons_self))
noncomputable def E_attach_Attachments_r : Env := envOf (P := Try.prog) [api_Object_string_fact] [] [] ckf true
def attach_Attachments_rF (a1 : XObj) (b1 : ByteArray) (b2 : List XObj) : List XObj :=
  cond (cond (a1.kind == (5 : Int)) (decide (a1.volume = b1)) false)
    (api_Object_stringF a1 b2)
    b2
def attach_Attachments_rQ (a1 : XObj) (b1 : ByteArray) (b2 : List XObj) : RT :=
  (.leaf .normal ⟨slots 23 [(3, .ptr 1 0), (5, .ptr 2 0), (6, .ptr 3 0)], [.dead, .cells 9 [.str b1], .cells 22 [.vec 4], .cells 37 (oc a1), .vec false ⟨.obj, b2⟩]⟩ [0, 1, 2, 4, 3])
def attach_Attachments_rR (a1 : XObj) (b1 : ByteArray) (b2 : List XObj) : RT :=
  (.ask (cond (a1.kind == (5 : Int)) (decide (a1.volume = b1)) false)
    (.need [b2.length ≤ 64]
      (.leaf .normal ⟨slots 23 [], [.dead, .cells 9 [.str b1], .cells 22 [.vec 3], .vec false ⟨.obj, api_Object_stringF a1 b2⟩]⟩ [0, 1, 2, 5]))
    (.leaf .normal ⟨slots 23 [], [.dead, .cells 9 [.str b1], .cells 22 [.vec 3], .vec false ⟨.obj, b2⟩]⟩ [0, 1, 2, 4]))
theorem attach_Attachments_r_tr (a1 : XObj) (b1 : ByteArray) (b2 : List XObj) (hp0 : b2.length ≤ 64) : Tr Try.prog 3 (Globs.site 1).2.1 ⟨slots 23 [(3, .ptr 1 0), (5, .ptr 2 0), (9, .agg (oc a1))], .dead :: [.cells 9 [.str b1], .var 22 false ⟨.obj, b2⟩]⟩ (fun e s1 => e = .normal ∧ Tr Try.prog 3 (Globs.site 1).2.2 s1 (rdEnds (true) .normal [.cells 9 [.str b1], .var 22 false ⟨.obj, attach_Attachments_rF a1 b1 b2⟩] .normal [.cells 9 [.str b1], .var 22 false ⟨.obj, attach_Attachments_rF a1 b1 b2⟩])) := by
  refine Tr.pre (Turn.unfold 2 3 rfl (by simp)) ?_
  refine Tr_tree (kok _ _ _ _ _ _) (E := E_attach_Attachments_r) (L := noLoops) 60 9999 LoopsOk.none (attach_Attachments_rQ a1 b1 b2) (by kernel_rfl) (by kernel_rfl) (by kernel_rfl) ?_
  unfold attach_Attachments_rQ
  refine ⟨rfl, ?_⟩
  refine Tr.post ?_
  refine Tr_tree (kok _ _ _ _ _ _) (E := E_attach_Attachments_r) (L := noLoops) 60 9999 LoopsOk.none (attach_Attachments_rR a1 b1 b2) (by kernel_rfl) (by kernel_rfl) (by kernel_rfl) ?_
  unfold attach_Attachments_rR
  refine ⟨fun h0 => ?_, fun h0 => ?_⟩
  · refine ⟨need_cons (by assumption) (need_nil), ?_⟩
    have hF : attach_Attachments_rF a1 b1 b2 = api_Object_stringF a1 b2 := by first | exact (cond_t h0 rfl) | simp only [attach_Attachments_rF, h0, cond_true, cond_false]
    exact ⟨_, Turn.fold 2 3 rfl rfl, .inl ⟨rfl, rfl, by first | (rw [hF]; kernel_rfl) | kernel_rfl⟩⟩
  · have hF : attach_Attachments_rF a1 b1 b2 = b2 := by first | exact (cond_f h0 rfl) | simp only [attach_Attachments_rF, h0, cond_true, cond_false]
    exact ⟨_, Turn.fold 2 3 rfl rfl, .inl ⟨rfl, rfl, by first | (rw [hF]; kernel_rfl) | kernel_rfl⟩⟩
noncomputable def attach_Attachments_r_fact : FactY Try.prog := factY 1 [.st .obj] (cpsOf 23 [(3, .ptr 1 0), (5, .ptr 2 0)]) [.cells 9 [.str], .var 22 false .obj] (fun t u => true) .normal .normal none none (fun t u => [.cells 9 [.str u.2.1.1], .var 22 false ⟨.obj, attach_Attachments_rF t.2.1 u.2.1.1 u.2.2.1⟩]) (fun t u => [.cells 9 [.str u.2.1.1], .var 22 false ⟨.obj, attach_Attachments_rF t.2.1 u.2.1.1 u.2.2.1⟩]) (fun t u => [u.2.2.1.length ≤ 64]) rfl rfl
  (fun t u => by kernel_rfl) (fun t => by kernel_rfl) (fun t u => by kernel_rfl) (fun t u => by kernel_rfl) (fun t u => by kernel_rfl) (fun t u => slots 23 [(3, .ptr 1 0), (5, .ptr 2 0), (9, .agg (oc t.2.1))]) (fun t u => by kernel_rfl) (fun t u h => attach_Attachments_r_tr t.2.1 u.2.1.1 u.2.2.1 (h _ List.mem_cons_self))
noncomputable def E_attach_Attachments_it : Env := envOf (P := Try.prog) [object_Key_fact] [] [] ckf false [attach_Attachments_r_fact]
theorem putO_len (x : XObj) (l : List XObj) : (api_Object_stringF x l).length ≤ l.length + 1 := by
  unfold api_Object_stringF
  cases (api_Object_string_2F (attach_Attachments_1F x) l).2 with
  | true => simp
  | false =>
    simp only [cond_false, List.length_append, List.length_cons, List.length_nil, List.length_take, List.length_drop]
    omega
theorem attach_Attachments_r_len (o : XObj) (n : ByteArray) (l : List XObj) : (attach_Attachments_rF o n l).length ≤ l.length + 1 := by
  unfold attach_Attachments_rF
  cases cond (o.kind == (5 : Int)) (decide (o.volume = n)) false with
  | true => exact putO_len _ _
  | false => exact Nat.le_succ _
def attach_Attachments_itLF (a1 : ByteArray) : List XObj → List XObj → List (XKey × Bool) → List XObj
  | [], v4, v6 => v4
  | o :: r, v4, v6 => cond (!((mget (k := .key) (v := .bool) v6 (object_KeyF o)).getD default))
    (attach_Attachments_itLF a1 r (attach_Attachments_rF o a1 v4) (mset (k := .key) (v := .bool) v6 (object_KeyF o) true))
    (attach_Attachments_itLF a1 r v4 (mset (k := .key) (v := .bool) v6 (object_KeyF o) true))
def attach_Attachments_itLS (a0 : List XObj) (a1 : ByteArray) (i : Nat) (v4 : List XObj) (v6 : List (XKey × Bool)) : St :=
  ⟨slots 29 [(0, .yld 3), (3, .map 4), (8, .coll ⟨.obj, attach_firstsF a0⟩), (9, .int .i64 ((attach_firstsF a0).length : Int)), (10, .int .i64 (i : Int))], [.cells 9 [.str a1], .var 22 false ⟨.obj, v4⟩, .cells 22 [.coll ⟨.obj, attach_firstsF a0⟩], .loop 1 (slots 23 [(3, .ptr 0 0), (5, .ptr 1 0)]) none, .map ⟨.key, .bool, v6⟩]⟩
def attach_Attachments_itLR (a0 : List XObj) (a1 : ByteArray) (i : Nat) (v4 : List XObj) (v6 : List (XKey × Bool)) : RT :=
  (.ask (decide ((i : Int) < ((attach_firstsF a0).length : Int)))
    (.need [0 ≤ (i : Int) ∧ (i : Int) < ((attach_firstsF a0).length : Int)]
      (.ask (!((mget (k := .key) (v := .bool) v6 (object_KeyF ((attach_firstsF a0).getD i default))).getD default))
        (.ask true
          (.need [v4.length ≤ 64]
            (.ask false
              .fail
              (.leaf .normal ⟨slots 29 [(0, .yld 3), (3, .map 4), (8, .coll ⟨.obj, attach_firstsF a0⟩), (9, .int .i64 ((attach_firstsF a0).length : Int)), (10, .int .i64 (IntKind.i64.wrap ((i : Int) + (1 : Int))))], [.cells 9 [.str a1], .var 22 false ⟨.obj, attach_Attachments_rF ((attach_firstsF a0).getD i default) a1 v4⟩, .cells 22 [.coll ⟨.obj, attach_firstsF a0⟩], .loop 1 (slots 23 [(3, .ptr 0 0), (5, .ptr 1 0)]) none, .map ⟨.key, .bool, (mset (k := .key) (v := .bool) v6 (object_KeyF ((attach_firstsF a0).getD i default)) true)⟩]⟩ [])))
          .fail)
        (.ask false
          .fail
          (.leaf .normal ⟨slots 29 [(0, .yld 3), (3, .map 4), (8, .coll ⟨.obj, attach_firstsF a0⟩), (9, .int .i64 ((attach_firstsF a0).length : Int)), (10, .int .i64 (IntKind.i64.wrap ((i : Int) + (1 : Int))))], [.cells 9 [.str a1], .var 22 false ⟨.obj, v4⟩, .cells 22 [.coll ⟨.obj, attach_firstsF a0⟩], .loop 1 (slots 23 [(3, .ptr 0 0), (5, .ptr 1 0)]) none, .map ⟨.key, .bool, (mset (k := .key) (v := .bool) v6 (object_KeyF ((attach_firstsF a0).getD i default)) true)⟩]⟩ []))))
    (.leaf (.exit 0) ⟨slots 29 [], [.cells 9 [.str a1], .var 22 false ⟨.obj, v4⟩, .cells 22 [.coll ⟨.obj, attach_firstsF a0⟩], .loop 1 (slots 23 [(3, .ptr 0 0), (5, .ptr 1 0)]) none]⟩ []))
def attach_Attachments_itLT (a0 : List XObj) (a1 : ByteArray) (i : Nat) (v4 : List XObj) (v6 : List (XKey × Bool)) : Tree :=
  .leaf (.exit 0) ⟨slots 29 [], [.cells 9 [.str a1], .var 22 false ⟨.obj, attach_Attachments_itLF a1 ((attach_firstsF a0).drop i) v4 v6⟩, .cells 22 [.coll ⟨.obj, attach_firstsF a0⟩], .loop 1 (slots 23 [(3, .ptr 0 0), (5, .ptr 1 0)]) none]⟩
theorem attach_Attachments_itL_loop (a0 : List XObj) (a1 : ByteArray) (hp0 : a0.length ≤ 64) (hlen : (attach_firstsF a0).length < 4611686018427387904) (z : { z : Nat × List XObj × (List (XKey × Bool)) // z.1 ≤ (attach_firstsF a0).length ∧ z.2.1.length ≤ z.1 }) (Q : Exit → St → Prop) (h : (attach_Attachments_itLT a0 a1 z.1.1 z.1.2.1 z.1.2.2).All Q) : Tr Try.prog 4 (.loop (loopAt Try.f54 0)) (attach_Attachments_itLS a0 a1 z.1.1 z.1.2.1 z.1.2.2) Q := by
  refine Tr_loopT (kok _ _ _ _ _ _) (E := E_attach_Attachments_it) (ι := { z : Nat × List XObj × (List (XKey × Bool)) // z.1 ≤ (attach_firstsF a0).length ∧ z.2.1.length ≤ z.1 }) 60 0 (fun _ => noLoops) (fun z => attach_Attachments_itLS a0 a1 z.1.1 z.1.2.1 z.1.2.2) (fun z => attach_Attachments_itLT a0 a1 z.1.1 z.1.2.1 z.1.2.2) (fun z => attach_Attachments_itLR a0 a1 z.1.1 z.1.2.1 z.1.2.2) (fun z => (attach_firstsF a0).length - z.1.1) (fun _ => LoopsOk.none) (fun z => by obtain ⟨⟨i, v4, v6⟩, hi⟩ := z; kernel_rfl) (fun z => by obtain ⟨⟨i, v4, v6⟩, hi⟩ := z; kernel_rfl) (fun z => by obtain ⟨⟨i, v4, v6⟩, hi⟩ := z; kernel_rfl) ?_ z Q h
  rintro ⟨⟨i, v4, v6⟩, hi⟩ Q hT
  replace hT : (attach_Attachments_itLT a0 a1 i v4 v6).All Q := hT
  replace hi : i ≤ (attach_firstsF a0).length ∧ v4.length ≤ i := hi
  show (attach_Attachments_itLR a0 a1 i v4 v6).All _
  unfold attach_Attachments_itLR
  refine ⟨fun h0 => ?_, fun h0 => ?_⟩
  · have hlt : i < (attach_firstsF a0).length := by simpa using h0
    have hd := drop_getD hlt
    have hw := wrap_succ (i := i) (by omega)
    refine ⟨need_cons (by first | assumption | omega | (intro; omega) | (simp only [decide_eq_true_eq, decide_eq_false_iff_not, Bool.cond_false_right, Bool.cond_true_right, Bool.cond_true_left, Bool.cond_false_left, Bool.and_eq_true, Bool.or_eq_true, Bool.not_eq_true', bytesLim, maxLen, List.length_cons, List.length_nil, List.length_append, byteSize_lit] at *; omega) | (intro; simp only [decide_eq_true_eq, decide_eq_false_iff_not, Bool.cond_false_right, Bool.cond_true_right, Bool.cond_true_left, Bool.cond_false_left, Bool.and_eq_true, Bool.or_eq_true, Bool.not_eq_true', bytesLim, maxLen, List.length_cons, List.length_nil, List.length_append, byteSize_lit] at *; omega)) (need_nil), ?_⟩
    refine ⟨fun h1 => ?_, fun h1 => ?_⟩
    · refine ⟨fun h2 => ?_, fun h2 => ?_⟩
      · refine ⟨need_cons (by have e9 : (attach_firstsF a0).length = a0.length := rfl; omega) (need_nil), ?_⟩
        refine ⟨fun h3 => ?_, fun h3 => ?_⟩
        · exact absurd h3 (by simp)
        · have hF : attach_Attachments_itLF a1 ((attach_firstsF a0).drop i) v4 v6 = attach_Attachments_itLF a1 ((attach_firstsF a0).drop (i + 1)) (attach_Attachments_rF ((attach_firstsF a0).getD i default) a1 v4) (mset (k := .key) (v := .bool) v6 (object_KeyF ((attach_firstsF a0).getD i default)) true) := by rw [hd]; first | exact (cond_t h1 (cond_t h2 (cond_f h3 rfl))) | simp only [attach_Attachments_itLF, h0, h1, h2, h3, cond_true, cond_false]
          refine ⟨⟨((i + 1), attach_Attachments_rF ((attach_firstsF a0).getD i default) a1 v4, (mset (k := .key) (v := .bool) v6 (object_KeyF ((attach_firstsF a0).getD i default)) true)), by (first | dsimp only | skip); refine ⟨by omega, ?_⟩; first | omega | exact Nat.le_trans (attach_Attachments_r_len _ _ _) (by omega)⟩, by show (attach_firstsF a0).length - (i + 1) < (attach_firstsF a0).length - i; omega, ?_, ?_⟩
          · show _ = attach_Attachments_itLS a0 a1 (i + 1) (attach_Attachments_rF ((attach_firstsF a0).getD i default) a1 v4) (mset (k := .key) (v := .bool) v6 (object_KeyF ((attach_firstsF a0).getD i default)) true)
            unfold attach_Attachments_itLS
            simp only [hw]
          · show (attach_Attachments_itLT a0 a1 (i + 1) (attach_Attachments_rF ((attach_firstsF a0).getD i default) a1 v4) (mset (k := .key) (v := .bool) v6 (object_KeyF ((attach_firstsF a0).getD i default)) true)).All Q
            unfold attach_Attachments_itLT at hT ⊢
            rw [hF] at hT
            exact hT
      · exact absurd h2 (by simp)
    · refine ⟨fun h2 => ?_, fun h2 => ?_⟩
      · exact absurd h2 (by simp)
      · have hF : attach_Attachments_itLF a1 ((attach_firstsF a0).drop i) v4 v6 = attach_Attachments_itLF a1 ((attach_firstsF a0).drop (i + 1)) v4 (mset (k := .key) (v := .bool) v6 (object_KeyF ((attach_firstsF a0).getD i default)) true) := by rw [hd]; first | exact (cond_f h1 (cond_f h2 rfl)) | simp only [attach_Attachments_itLF, h0, h1, h2, cond_true, cond_false]
        refine ⟨⟨((i + 1), v4, (mset (k := .key) (v := .bool) v6 (object_KeyF ((attach_firstsF a0).getD i default)) true)), by (first | dsimp only | skip); refine ⟨by omega, ?_⟩; first | omega | exact Nat.le_trans (attach_Attachments_r_len _ _ _) (by omega)⟩, by show (attach_firstsF a0).length - (i + 1) < (attach_firstsF a0).length - i; omega, ?_, ?_⟩
        · show _ = attach_Attachments_itLS a0 a1 (i + 1) v4 (mset (k := .key) (v := .bool) v6 (object_KeyF ((attach_firstsF a0).getD i default)) true)
          unfold attach_Attachments_itLS
          simp only [hw]
        · show (attach_Attachments_itLT a0 a1 (i + 1) v4 (mset (k := .key) (v := .bool) v6 (object_KeyF ((attach_firstsF a0).getD i default)) true)).All Q
          unfold attach_Attachments_itLT at hT ⊢
          rw [hF] at hT
          exact hT
  · have hge : ¬ i < (attach_firstsF a0).length := by simpa using h0
    have hd : (attach_firstsF a0).drop i = [] := List.drop_eq_nil_of_le (by omega)
    have hF : attach_Attachments_itLF a1 ((attach_firstsF a0).drop i) v4 v6 = v4 := by rw [hd]; first | exact rfl | simp only [attach_Attachments_itLF, h0, cond_true, cond_false]
    unfold attach_Attachments_itLT at hT
    rw [hF] at hT
    exact hT
def attach_Attachments_itS (a0 : List XObj) (a1 : ByteArray) : St :=
  ⟨slots 23 [(3, .ptr 0 0), (5, .ptr 1 0), (8, .fn 54 [.ptr 2 0])], [.cells 9 [.str a1], .cells 22 [.vec 3], .cells 22 [.coll ⟨.obj, attach_firstsF a0⟩], .vec false ⟨.obj, []⟩]⟩
def attach_Attachments_itR (a0 : List XObj) (a1 : ByteArray) : RT :=
  (.leaf .normal ⟨slots 29 [], [.cells 9 [.str a1], .var 22 false ⟨.obj, attach_Attachments_itLF a1 (attach_firstsF a0) [] []⟩, .cells 22 [.coll ⟨.obj, attach_firstsF a0⟩], .loop 1 (slots 23 [(3, .ptr 0 0), (5, .ptr 1 0)]) none]⟩ [])
def attach_Attachments_itT (a0 : List XObj) (a1 : ByteArray) : Tree :=
  .leaf .normal ⟨slots 23 [(3, .ptr 0 0), (5, .ptr 1 0), (8, .fn 54 [.ptr 2 0])], [.cells 9 [.str a1], .cells 22 [.vec 4], .cells 22 [.coll ⟨.obj, attach_firstsF a0⟩], .dead, .vec false ⟨.obj, attach_Attachments_itLF a1 (attach_firstsF a0) [] []⟩]⟩
theorem attach_Attachments_it_rg (a0 : List XObj) (a1 : ByteArray) (hp0 : a0.length ≤ 64) (Q : Exit → St → Prop) (hT : (attach_Attachments_itT a0 a1).All Q) : Tr Try.prog 0 (loopAt Try.f17 0) (attach_Attachments_itS a0 a1) Q := by
  have hc : loopAt Try.f17 0 = .rangeFunc (.tmp 8) (Globs.site 1).1 (Globs.site 1).2.1 (Globs.site 1).2.2 := by kernel_rfl
  rw [hc]
  refine Tr.pre (Turn.fold 1 3 rfl rfl) ?_
  refine Tr.pre (Turn.fits (p := ⟨slots 23 [(3, .ptr 0 0), (5, .ptr 1 0), (8, .fn 54 [.ptr 2 0])], [.cells 9 [.str a1], .var 22 false ⟨.obj, []⟩, .cells 22 [.coll ⟨.obj, attach_firstsF a0⟩]]⟩) [] (by kernel_rfl) (by kernel_rfl) (by kernel_rfl) (by kernel_rfl)) ?_
  refine Tr.post ?_
  refine Tr_range (site := 1) (gf := 54) (fn := Try.f54) (c := bodyOf Try.f54) (cap := [.ptr 2 0]) 3 [3, 5] (slots 23 [(3, .ptr 0 0), (5, .ptr 1 0)]) [.yld 3, .ptr 2 0] [.cells 9 [.str a1], .var 22 false ⟨.obj, []⟩, .cells 22 [.coll ⟨.obj, attach_firstsF a0⟩], .loop 1 (slots 23 [(3, .ptr 0 0), (5, .ptr 1 0)]) none] rfl (by kernel_rfl) (by kernel_rfl) rfl (by kernel_rfl) (by kernel_rfl) (by kernel_rfl) (by kernel_rfl) (by kernel_rfl) (by kernel_rfl) (by kernel_rfl) (by kernel_rfl) ?_
  refine Tr_tree (kok _ _ _ _ _ _) (E := E_attach_Attachments_it) (L := (loopsOf [(0, attach_Attachments_itLS a0 a1 0 [] [], [], attach_Attachments_itLT a0 a1 0 [] [])])) 60 9999 (LoopsOk.one (g := loopAt Try.f54 0) (b := 0) (by kernel_rfl) (by kernel_rfl) (by kernel_rfl) (by kernel_rfl) (fun Q h => attach_Attachments_itL_loop a0 a1 hp0 (by show a0.length < _; omega) ⟨(0, [], []), ⟨Nat.zero_le _, Nat.le_refl _⟩⟩ Q h)) (attach_Attachments_itR a0 a1) (by kernel_rfl) (by kernel_rfl) (by kernel_rfl) ?_
  unfold attach_Attachments_itR
  unfold attach_Attachments_itT at hT
  exact ⟨⟨trivial, .tup [], by kernel_rfl⟩, none, [.cells 9 [.str a1], .var 22 false ⟨.obj, attach_Attachments_itLF a1 (attach_firstsF a0) [] []⟩, .cells 22 [.coll ⟨.obj, attach_firstsF a0⟩], .dead], by kernel_rfl, rfl, by kernel_rfl, by kernel_rfl, by kernel_rfl, by kernel_rfl, ⟨_, Turn.unfold 1 4 rfl (by simp), hT⟩⟩
noncomputable def E_attach_Attachments : Env := envOf (P := Try.prog) [attach_firsts_fact] [] [] ckf true
def attach_AttachmentsF (a0 : List XObj) (a1 : ByteArray) : List XObj :=
  attach_Attachments_itLF a1 (attach_firstsF a0) [] []
def attach_AttachmentsR (a0 : List XObj) (a1 : ByteArray) : RT :=
  (.leaf .ret ⟨slots 23 [(4, .vec 0)], [.vec false ⟨.obj, attach_Attachments_itLF a1 (attach_firstsF a0) [] []⟩]⟩ [4])
theorem attach_AttachmentsF_tr (a0 : List XObj) (a1 : ByteArray) (hp0 : a0.length ≤ 64) : Tr Try.prog 0 (bodyOf Try.f17) (fnBegins Try.f17 [.coll ⟨.obj, a0⟩, .str a1] []) (fnEnds Try.prog Try.f17 (.vec 0) [.vec false ⟨.obj, attach_AttachmentsF a0 a1⟩]) := by
  refine Tr_tree (kok _ _ _ _ _ _) (E := E_attach_Attachments) (L := (loopsOf [(0, attach_Attachments_itS a0 a1, [0, 2, 4, 3], attach_Attachments_itT a0 a1)])) 60 9999 (LoopsOk.oneR (g := loopAt Try.f17 0) (b := 0) (by kernel_rfl) (by kernel_rfl) (by kernel_rfl) (by kernel_rfl) (fun Q h => attach_Attachments_it_rg a0 a1 hp0 Q h)) (attach_AttachmentsR a0 a1) (by kernel_rfl) (by kernel_rfl) (by kernel_rfl) ?_
  unfold attach_AttachmentsR
  exact ⟨trivial, .inl (by kernel_rfl), by kernel_rfl⟩
noncomputable def attach_Attachments_fact : Fact Try.prog := factOf 17 Try.f17 (by kernel_rfl) rfl (by kernel_rfl) [.c (.coll .obj), .c (.str)] [] false (fun t u => .vec 0) (fun t u => [.vec false ⟨.obj, attach_AttachmentsF t.1 t.2.1⟩]) (fun t u => [t.1.length ≤ 64])
  (nofun) (fun t u => by kernel_rfl) (fun t u => by kernel_rfl) (fun t u h => attach_AttachmentsF_tr t.1 t.2.1 (h _ List.mem_cons_self))
end Go.Proofs.Ytbcnehpndoghcaa
