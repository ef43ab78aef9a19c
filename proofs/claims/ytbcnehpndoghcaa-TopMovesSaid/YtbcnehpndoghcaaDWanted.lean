/- Attach: where a volume is wanted. -/
import Derived.Test.YtbcnehpndoghcaaDPut
set_option linter.unusedVariables false
set_option linter.unusedSimpArgs false
set_option maxRecDepth 100000
namespace Go.Proofs.Ytbcnehpndoghcaa
open Go Go.Eng
noncomputable def E_attach_Wanted_1 : Env := envOf (P := Try.prog) [] [] [] ckf
def attach_Wanted_1F (a0 : ByteArray) : ByteArray :=
  a0
def attach_Wanted_1R (a0 : ByteArray) : RT :=
  (.leaf .ret ⟨slots 4 [(2, .str a0)], []⟩ [])
theorem attach_Wanted_1F_tr (a0 : ByteArray)  : Tr Try.prog 0 (bodyOf Try.f29) (fnBegins Try.f29 [.str a0] []) (fnEnds Try.prog Try.f29 (.str (attach_Wanted_1F a0)) []) := by
  refine Tr_tree (kok _ _ _ _ _ _) (E := E_attach_Wanted_1) (L := noLoops) 60 9999 LoopsOk.none (attach_Wanted_1R a0) (by kernel_rfl) (by kernel_rfl) (by kernel_rfl) ?_
  unfold attach_Wanted_1R
  exact ⟨trivial, .inl (by kernel_rfl), by kernel_rfl⟩
noncomputable def attach_Wanted_1_fact : Fact Try.prog := factOf 29 Try.f29 (by kernel_rfl) rfl (by kernel_rfl) [.c (.str)] [] true (fun t u => .str (attach_Wanted_1F t.1)) (fun t u => []) (fun t u => [])
  (fun _ _ _ => rfl) (fun t u => by kernel_rfl) (fun t u => by kernel_rfl) (fun t u h => attach_Wanted_1F_tr t.1 )
noncomputable def E_attach_put_string_string_1 : Env := envOf (P := Try.prog) [attach_Wanted_1_fact, cmp_Compare_string_fact] [] [] ckf
def attach_put_string_string_1F (a0 : ByteArray) (a1 : ByteArray) : Int :=
  (cmp_Compare_stringF (attach_Wanted_1F a0) a1)
def attach_put_string_string_1R (a0 : ByteArray) (a1 : ByteArray) : RT :=
  (.leaf .ret ⟨slots 11 [(5, .int .i64 (cmp_Compare_stringF (attach_Wanted_1F a0) a1))], [.cells 68 [.fn 29 []]]⟩ [])
theorem attach_put_string_string_1F_tr (a0 : ByteArray) (a1 : ByteArray)  : Tr Try.prog 1 (bodyOf Try.f57) (fnBegins Try.f57 [.str a0, .str a1, .ptr 0 0] [.cells 68 [.fn 29 []]]) (fnEnds Try.prog Try.f57 (.int .i64 (attach_put_string_string_1F a0 a1)) [.cells 68 [.fn 29 []]]) := by
  refine Tr_tree (kok _ _ _ _ _ _) (E := E_attach_put_string_string_1) (L := noLoops) 60 9999 LoopsOk.none (attach_put_string_string_1R a0 a1) (by kernel_rfl) (by kernel_rfl) (by kernel_rfl) ?_
  unfold attach_put_string_string_1R
  exact ⟨trivial, .inl (by kernel_rfl), by kernel_rfl⟩
noncomputable def attach_put_string_string_1_fact : Fact Try.prog := factOf 57 Try.f57 (by kernel_rfl) rfl (by kernel_rfl) [.c (.str), .c (.str), .c (.ptr 0 0)] [.cells 68 [.fn 29]] true (fun t u => .int .i64 (attach_put_string_string_1F t.1 t.2.1)) (fun t u => HPL.enc _ u) (fun t u => [])
  (fun _ _ _ => rfl) (fun t u => by kernel_rfl) (fun t u => by kernel_rfl) (fun t u h => attach_put_string_string_1F_tr t.1 t.2.1 )
noncomputable def E_slices_BinarySearchFunc_string_string_string : Env := envOf (P := Try.prog) [attach_put_string_string_1_fact] [] [] ckf
def slices_BinarySearchFunc_string_string_stringLF (a1 : ByteArray) (b0 : List ByteArray) : Nat → Int → Int → Int
  | 0, _, _ => default
  | n + 1, v2, v3 => cond (decide (v2 < v3))
    (cond (decide ((attach_put_string_string_1F (b0.getD ((IntKind.i64.wrap ((IntKind.u64.wrap (IntKind.i64.wrap (v2 + v3))) / 2)).toNat) default) a1) < (0 : Int)))
      (slices_BinarySearchFunc_string_string_stringLF a1 b0 n (IntKind.i64.wrap ((IntKind.i64.wrap ((IntKind.u64.wrap (IntKind.i64.wrap (v2 + v3))) / 2)) + (1 : Int))) v3)
      (slices_BinarySearchFunc_string_string_stringLF a1 b0 n v2 (IntKind.i64.wrap ((IntKind.u64.wrap (IntKind.i64.wrap (v2 + v3))) / 2))))
    v2
def slices_BinarySearchFunc_string_string_stringLS (a1 : ByteArray) (b0 : List ByteArray) (v2 : Int) (v3 : Int) (g : Nat) : St :=
  ⟨slots 49 [(0, .vec 0), (1, .str a1), (2, .fn 57 [.ptr 1 0]), (8, .int .i64 (b0.length : Int)), (9, .int .i64 v2), (10, .int .i64 v3)], [.vec false ⟨.str, b0⟩, .cells 68 [.fn 29 []]]⟩
def slices_BinarySearchFunc_string_string_stringLR (a1 : ByteArray) (b0 : List ByteArray) (v2 : Int) (v3 : Int) (g : Nat) : RT :=
  (.ask (decide (v2 < v3))
    (.need [0 ≤ (IntKind.i64.wrap ((IntKind.u64.wrap (IntKind.i64.wrap (v2 + v3))) / 2)) ∧ (IntKind.i64.wrap ((IntKind.u64.wrap (IntKind.i64.wrap (v2 + v3))) / 2)) < (b0.length : Int)]
      (.ask (decide ((attach_put_string_string_1F (b0.getD ((IntKind.i64.wrap ((IntKind.u64.wrap (IntKind.i64.wrap (v2 + v3))) / 2)).toNat) default) a1) < (0 : Int)))
        (.leaf .normal ⟨slots 49 [(0, .vec 0), (1, .str a1), (2, .fn 57 [.ptr 1 0]), (8, .int .i64 (b0.length : Int)), (9, .int .i64 (IntKind.i64.wrap ((IntKind.i64.wrap ((IntKind.u64.wrap (IntKind.i64.wrap (v2 + v3))) / 2)) + (1 : Int)))), (10, .int .i64 v3)], [.vec false ⟨.str, b0⟩, .cells 68 [.fn 29 []]]⟩ [])
        (.leaf .normal ⟨slots 49 [(0, .vec 0), (1, .str a1), (2, .fn 57 [.ptr 1 0]), (8, .int .i64 (b0.length : Int)), (9, .int .i64 v2), (10, .int .i64 (IntKind.i64.wrap ((IntKind.u64.wrap (IntKind.i64.wrap (v2 + v3))) / 2)))], [.vec false ⟨.str, b0⟩, .cells 68 [.fn 29 []]]⟩ [])))
    (.leaf (.exit 0) ⟨slots 49 [(0, .vec 0), (1, .str a1), (2, .fn 57 [.ptr 1 0]), (8, .int .i64 (b0.length : Int)), (9, .int .i64 v2)], [.vec false ⟨.str, b0⟩, .cells 68 [.fn 29 []]]⟩ []))
def slices_BinarySearchFunc_string_string_stringLT (a1 : ByteArray) (b0 : List ByteArray) (v2 : Int) (v3 : Int) (g : Nat) : Tree :=
  .leaf (.exit 0) ⟨slots 49 [(0, .vec 0), (1, .str a1), (2, .fn 57 [.ptr 1 0]), (8, .int .i64 (b0.length : Int)), (9, .int .i64 (slices_BinarySearchFunc_string_string_stringLF a1 b0 (g + 1) v2 v3))], [.vec false ⟨.str, b0⟩, .cells 68 [.fn 29 []]]⟩
theorem slices_BinarySearchFunc_string_string_stringL_loop (a1 : ByteArray) (b0 : List ByteArray) (hp0 : b0.length < 4611686018427387904) (z : { z : Int × Int × Nat // 0 ≤ z.1 ∧ z.1 ≤ z.2.1 ∧ z.2.1 ≤ (b0.length : Int) ∧ z.2.1 - z.1 ≤ (z.2.2 : Int) }) (Q : Exit → St → Prop) (h : (slices_BinarySearchFunc_string_string_stringLT a1 b0 z.1.1 z.1.2.1 z.1.2.2).All Q) : Tr Try.prog 2 (.loop (loopAt Try.f56 0)) (slices_BinarySearchFunc_string_string_stringLS a1 b0 z.1.1 z.1.2.1 z.1.2.2) Q := by
  refine Tr_loopT (kok _ _ _ _ _ _) (E := E_slices_BinarySearchFunc_string_string_string) (ι := { z : Int × Int × Nat // 0 ≤ z.1 ∧ z.1 ≤ z.2.1 ∧ z.2.1 ≤ (b0.length : Int) ∧ z.2.1 - z.1 ≤ (z.2.2 : Int) }) 60 0 (fun _ => noLoops) (fun z => slices_BinarySearchFunc_string_string_stringLS a1 b0 z.1.1 z.1.2.1 z.1.2.2) (fun z => slices_BinarySearchFunc_string_string_stringLT a1 b0 z.1.1 z.1.2.1 z.1.2.2) (fun z => slices_BinarySearchFunc_string_string_stringLR a1 b0 z.1.1 z.1.2.1 z.1.2.2) (fun z => z.1.2.2) (fun _ => LoopsOk.none) (fun z => by obtain ⟨⟨v2, v3, g⟩, hi⟩ := z; kernel_rfl) (fun z => by obtain ⟨⟨v2, v3, g⟩, hi⟩ := z; kernel_rfl) (fun z => by obtain ⟨⟨v2, v3, g⟩, hi⟩ := z; kernel_rfl) ?_ z Q h
  rintro ⟨⟨v2, v3, g⟩, hi⟩ Q hT
  replace hT : (slices_BinarySearchFunc_string_string_stringLT a1 b0 v2 v3 g).All Q := hT
  replace hi : 0 ≤ v2 ∧ v2 ≤ v3 ∧ v3 ≤ (b0.length : Int) ∧ v3 - v2 ≤ (g : Int) := hi
  show (slices_BinarySearchFunc_string_string_stringLR a1 b0 v2 v3 g).All _
  unfold slices_BinarySearchFunc_string_string_stringLR
  refine ⟨fun h0 => ?_, fun h0 => ?_⟩
  · refine ⟨need_cons (by have h9 : v2 < v3 := (by simpa using h0); have hm := mid_eq hi.1 h9 (by omega); simp only [hm.1, hm.2]; omega) (need_nil), ?_⟩
    refine ⟨fun h1 => ?_, fun h1 => ?_⟩
    · have h9 := h0
      simp only [decide_eq_true_eq, decide_eq_false_iff_not] at h9
      have hF : slices_BinarySearchFunc_string_string_stringLF a1 b0 (g + 1) v2 v3 = slices_BinarySearchFunc_string_string_stringLF a1 b0 (g) (IntKind.i64.wrap ((IntKind.i64.wrap ((IntKind.u64.wrap (IntKind.i64.wrap (v2 + v3))) / 2)) + (1 : Int))) v3 := by simp only [slices_BinarySearchFunc_string_string_stringLF, h0, h1, cond_true, cond_false]
      refine ⟨⟨((IntKind.i64.wrap ((IntKind.i64.wrap ((IntKind.u64.wrap (IntKind.i64.wrap (v2 + v3))) / 2)) + (1 : Int))), v3, (g - 1)), by have hm := mid_eq hi.1 h9 (by omega); simp only [hm.1, hm.2]; omega⟩, by show (g - 1) < g; omega, ?_, ?_⟩
      · show _ = slices_BinarySearchFunc_string_string_stringLS a1 b0 (IntKind.i64.wrap ((IntKind.i64.wrap ((IntKind.u64.wrap (IntKind.i64.wrap (v2 + v3))) / 2)) + (1 : Int))) v3 (g - 1)
        unfold slices_BinarySearchFunc_string_string_stringLS
        rfl
      · show (slices_BinarySearchFunc_string_string_stringLT a1 b0 (IntKind.i64.wrap ((IntKind.i64.wrap ((IntKind.u64.wrap (IntKind.i64.wrap (v2 + v3))) / 2)) + (1 : Int))) v3 (g - 1)).All Q
        unfold slices_BinarySearchFunc_string_string_stringLT at hT ⊢
        rw [hF] at hT
        rw [show g = (g - 1) + 1 from by omega] at hT
        exact hT
    · have h9 := h0
      simp only [decide_eq_true_eq, decide_eq_false_iff_not] at h9
      have hF : slices_BinarySearchFunc_string_string_stringLF a1 b0 (g + 1) v2 v3 = slices_BinarySearchFunc_string_string_stringLF a1 b0 (g) v2 (IntKind.i64.wrap ((IntKind.u64.wrap (IntKind.i64.wrap (v2 + v3))) / 2)) := by simp only [slices_BinarySearchFunc_string_string_stringLF, h0, h1, cond_true, cond_false]
      refine ⟨⟨(v2, (IntKind.i64.wrap ((IntKind.u64.wrap (IntKind.i64.wrap (v2 + v3))) / 2)), (g - 1)), by have hm := mid_eq hi.1 h9 (by omega); simp only [hm.1, hm.2]; omega⟩, by show (g - 1) < g; omega, ?_, ?_⟩
      · show _ = slices_BinarySearchFunc_string_string_stringLS a1 b0 v2 (IntKind.i64.wrap ((IntKind.u64.wrap (IntKind.i64.wrap (v2 + v3))) / 2)) (g - 1)
        unfold slices_BinarySearchFunc_string_string_stringLS
        rfl
      · show (slices_BinarySearchFunc_string_string_stringLT a1 b0 v2 (IntKind.i64.wrap ((IntKind.u64.wrap (IntKind.i64.wrap (v2 + v3))) / 2)) (g - 1)).All Q
        unfold slices_BinarySearchFunc_string_string_stringLT at hT ⊢
        rw [hF] at hT
        rw [show g = (g - 1) + 1 from by omega] at hT
        exact hT
  · have hF : slices_BinarySearchFunc_string_string_stringLF a1 b0 (g + 1) v2 v3 = v2 := by simp only [slices_BinarySearchFunc_string_string_stringLF, h0, cond_true, cond_false]
    unfold slices_BinarySearchFunc_string_string_stringLT at hT
    rw [hF] at hT
    exact hT
theorem slices_BinarySearchFunc_string_string_string_range (a1 : ByteArray) (b0 : List ByteArray) : ∀ (n : Nat) (i j : Int), 0 ≤ i → i ≤ j → j ≤ 4611686018427387904 → j - i ≤ n → 0 ≤ slices_BinarySearchFunc_string_string_stringLF a1 b0 (n + 1) i j ∧ slices_BinarySearchFunc_string_string_stringLF a1 b0 (n + 1) i j ≤ j := by
  intro n
  induction n with
  | zero =>
    intro i j h1 h2 h3 h4
    have h5 : decide (i < j) = false := decide_eq_false (by omega)
    unfold slices_BinarySearchFunc_string_string_stringLF
    rw [h5]
    exact ⟨h1, h2⟩
  | succ n ih =>
    intro i j h1 h2 h3 h4
    unfold slices_BinarySearchFunc_string_string_stringLF
    by_cases h5 : i < j
    · have hm := mid_eq h1 h5 h3
      rw [decide_eq_true h5, hm.1, hm.2]
      simp only [cond_true]
      cases decide (attach_put_string_string_1F (b0.getD ((i + j) / 2).toNat default) a1 < (0 : Int))
      · have := ih i ((i + j) / 2) h1 (by omega) (by omega) (by omega)
        exact ⟨this.1, by have h6 := this.2; simp only [cond_false]; omega⟩
      · exact ih _ _ (by omega) (by omega) h3 (by omega)
    · rw [decide_eq_false h5]
      exact ⟨h1, h2⟩
def slices_BinarySearchFunc_string_string_stringF (a1 : ByteArray) (b0 : List ByteArray) : Int × Bool :=
  ((slices_BinarySearchFunc_string_string_stringLF a1 b0 (b0.length + 1) (0 : Int) (b0.length : Int)), cond (decide ((slices_BinarySearchFunc_string_string_stringLF a1 b0 (b0.length + 1) (0 : Int) (b0.length : Int)) < (b0.length : Int))) ((attach_put_string_string_1F (b0.getD ((slices_BinarySearchFunc_string_string_stringLF a1 b0 (b0.length + 1) (0 : Int) (b0.length : Int)).toNat) default) a1) == (0 : Int)) false)
def slices_BinarySearchFunc_string_string_stringR (a1 : ByteArray) (b0 : List ByteArray) : RT :=
  (.need [((decide ((slices_BinarySearchFunc_string_string_stringLF a1 b0 (b0.length + 1) (0 : Int) (b0.length : Int)) < (b0.length : Int))) = true) → (0 ≤ (slices_BinarySearchFunc_string_string_stringLF a1 b0 (b0.length + 1) (0 : Int) (b0.length : Int)) ∧ (slices_BinarySearchFunc_string_string_stringLF a1 b0 (b0.length + 1) (0 : Int) (b0.length : Int)) < (b0.length : Int))]
    (.leaf .ret ⟨slots 49 [(6, .int .i64 (slices_BinarySearchFunc_string_string_stringLF a1 b0 (b0.length + 1) (0 : Int) (b0.length : Int))), (7, .bool (cond (decide ((slices_BinarySearchFunc_string_string_stringLF a1 b0 (b0.length + 1) (0 : Int) (b0.length : Int)) < (b0.length : Int))) ((attach_put_string_string_1F (b0.getD ((slices_BinarySearchFunc_string_string_stringLF a1 b0 (b0.length + 1) (0 : Int) (b0.length : Int)).toNat) default) a1) == (0 : Int)) false))], [.vec false ⟨.str, b0⟩, .cells 68 [.fn 29 []]]⟩ []))
theorem slices_BinarySearchFunc_string_string_stringF_tr (a1 : ByteArray) (b0 : List ByteArray) (hp0 : b0.length < 4611686018427387904) : Tr Try.prog 2 (bodyOf Try.f56) (fnBegins Try.f56 [.vec 0, .str a1, .fn 57 [.ptr 1 0]] [.vec false ⟨.str, b0⟩, .cells 68 [.fn 29 []]]) (fnEnds Try.prog Try.f56 (.tup [.int .i64 ((slices_BinarySearchFunc_string_string_stringF a1 b0).1), .bool ((slices_BinarySearchFunc_string_string_stringF a1 b0).2)]) [.vec false ⟨.str, b0⟩, .cells 68 [.fn 29 []]]) := by
  refine Tr_tree (kok _ _ _ _ _ _) (E := E_slices_BinarySearchFunc_string_string_string) (L := (loopsOf [(0, slices_BinarySearchFunc_string_string_stringLS a1 b0 (0 : Int) (b0.length : Int) b0.length, [], slices_BinarySearchFunc_string_string_stringLT a1 b0 (0 : Int) (b0.length : Int) b0.length)])) 60 9999 (LoopsOk.one (g := loopAt Try.f56 0) (b := 0) (by kernel_rfl) (by kernel_rfl) (by kernel_rfl) (by kernel_rfl) (fun Q h => slices_BinarySearchFunc_string_string_stringL_loop a1 b0 hp0 ⟨((0 : Int), (b0.length : Int), b0.length), by first | exact Nat.zero_le _ | (show 0 ≤ (0 : Int) ∧ (0 : Int) ≤ (b0.length : Int) ∧ (b0.length : Int) ≤ (b0.length : Int) ∧ (b0.length : Int) - (0 : Int) ≤ (b0.length : Int); omega) | (show 0 ≤ (0 : Int) ∧ (0 : Int) ≤ (b0.length : Int) ∧ (b0.length : Int) ≤ (b0.length : Int) ∧ (b0.length : Int) - (0 : Int) ≤ (b0.length : Int); exact ⟨Nat.zero_le _, by assumption⟩) | (show 0 ≤ (0 : Int) ∧ (0 : Int) ≤ (b0.length : Int) ∧ (b0.length : Int) ≤ (b0.length : Int) ∧ (b0.length : Int) - (0 : Int) ≤ (b0.length : Int); simp)⟩ Q h)) (slices_BinarySearchFunc_string_string_stringR a1 b0) (by kernel_rfl) (by kernel_rfl) (by kernel_rfl) ?_
  unfold slices_BinarySearchFunc_string_string_stringR
  refine ⟨need_cons (by intro h8; have h9 := slices_BinarySearchFunc_string_string_string_range a1 b0 b0.length 0 b0.length (by omega) (by omega) (by omega) (by omega); simp only [decide_eq_true_eq] at h8; exact ⟨h9.1, h8⟩) (need_nil), ?_⟩
  exact ⟨trivial, .inl (by kernel_rfl), by kernel_rfl⟩
noncomputable def slices_BinarySearchFunc_string_string_string_fact : Fact Try.prog := factOf 56 Try.f56 (by kernel_rfl) rfl (by kernel_rfl) [.c (.vec 0), .c (.str), .fn 57 [.ptr 1 0]] [.vec false .str, .cells 68 [.fn 29]] true (fun t u => .tup [.int .i64 ((slices_BinarySearchFunc_string_string_stringF t.2.1 u.1).1), .bool ((slices_BinarySearchFunc_string_string_stringF t.2.1 u.1).2)]) (fun t u => HPL.enc _ u) (fun t u => [u.1.length < 4611686018427387904])
  (fun _ _ _ => rfl) (fun t u => by kernel_rfl) (fun t u => by kernel_rfl) (fun t u h => slices_BinarySearchFunc_string_string_stringF_tr t.2.1 u.1 (h _ List.mem_cons_self))
noncomputable def E_attach_put_string_string : Env := envOf (P := Try.prog) [attach_Wanted_1_fact, slices_BinarySearchFunc_string_string_string_fact, insS_fact] [] [] ckf true
def attach_put_string_stringF (a1 : ByteArray) (b0 : List ByteArray) : List ByteArray :=
  cond ((slices_BinarySearchFunc_string_string_stringF (attach_Wanted_1F a1) b0).2)
    b0
    (b0.take ((slices_BinarySearchFunc_string_string_stringF (attach_Wanted_1F a1) b0).1).toNat ++ ([a1] ++ b0.drop ((slices_BinarySearchFunc_string_string_stringF (attach_Wanted_1F a1) b0).1).toNat))
def attach_put_string_stringR (a1 : ByteArray) (b0 : List ByteArray) : RT :=
  (.need [b0.length < 4611686018427387904]
    (.ask ((slices_BinarySearchFunc_string_string_stringF (attach_Wanted_1F a1) b0).2)
      (.leaf .ret ⟨slots 25 [(6, .vec 0)], [.vec false ⟨.str, b0⟩]⟩ [])
      (.need [0 ≤ ((slices_BinarySearchFunc_string_string_stringF (attach_Wanted_1F a1) b0).1) ∧ ((slices_BinarySearchFunc_string_string_stringF (attach_Wanted_1F a1) b0).1) ≤ (b0.length : Int) ∧ (b0.length + 1) * 16 ≤ bytesLim ∧ b0.length + 1 ≤ maxLen]
        (.leaf .ret ⟨slots 25 [(6, .vec 1)], [.dead, .vec false ⟨.str, (b0.take ((slices_BinarySearchFunc_string_string_stringF (attach_Wanted_1F a1) b0).1).toNat ++ ([a1] ++ b0.drop ((slices_BinarySearchFunc_string_string_stringF (attach_Wanted_1F a1) b0).1).toNat))⟩]⟩ [0, 4]))))
theorem attach_put_string_stringF_tr (a1 : ByteArray) (b0 : List ByteArray) (hp0 : b0.length ≤ 64) : Tr Try.prog 1 (bodyOf Try.f28) (fnBegins Try.f28 [.vec 0, .str a1, .fn 29 []] [.vec false ⟨.str, b0⟩]) (fnEnds Try.prog Try.f28 (.vec 1) [.dead, .vec false ⟨.str, attach_put_string_stringF a1 b0⟩]) := by
  refine Tr.post ?_
  refine Tr_tree (kok _ _ _ _ _ _) (E := E_attach_put_string_string) (L := noLoops) 60 9999 LoopsOk.none (attach_put_string_stringR a1 b0) (by kernel_rfl) (by kernel_rfl) (by kernel_rfl) ?_
  unfold attach_put_string_stringR
  refine ⟨need_cons (by omega) (need_nil), ?_⟩
  refine ⟨fun h0 => ?_, fun h0 => ?_⟩
  · have hF : attach_put_string_stringF a1 b0 = b0 := by first | exact (cond_t h0 rfl) | simp only [attach_put_string_stringF, h0, cond_true, cond_false]
    exact ⟨_, Turn.move 0 1 rfl (by simp), trivial, .inl (by first | (rw [hF]; kernel_rfl) | kernel_rfl), by first | (rw [hF]; kernel_rfl) | kernel_rfl⟩
  · refine ⟨need_cons (by have h9 := slices_BinarySearchFunc_string_string_string_range (attach_Wanted_1F a1) b0 b0.length 0 b0.length (by omega) (by omega) (by omega) (by omega); exact ⟨h9.1, h9.2, by unfold bytesLim; omega, by unfold maxLen; omega⟩) (need_nil), ?_⟩
    have hF : attach_put_string_stringF a1 b0 = (b0.take ((slices_BinarySearchFunc_string_string_stringF (attach_Wanted_1F a1) b0).1).toNat ++ ([a1] ++ b0.drop ((slices_BinarySearchFunc_string_string_stringF (attach_Wanted_1F a1) b0).1).toNat)) := by first | exact (cond_f h0 rfl) | simp only [attach_put_string_stringF, h0, cond_true, cond_false]
    exact ⟨_, Turn.refl _ _, trivial, .inl (by first | (rw [hF]; kernel_rfl) | kernel_rfl), by first | (rw [hF]; kernel_rfl) | kernel_rfl⟩
noncomputable def attach_put_string_string_fact : Fact Try.prog := factOf 28 Try.f28 (by kernel_rfl) rfl (by kernel_rfl) [.c (.vec 0), .c (.str), .c (.fn 29)] [.vec false .str] false (fun t u => .vec 1) (fun t u => [.dead, .vec false ⟨.str, attach_put_string_stringF t.2.1 u.1⟩]) (fun t u => [u.1.length ≤ 64])
  (nofun) (fun t u => by kernel_rfl) (fun t u => by kernel_rfl) (fun t u h => attach_put_string_stringF_tr t.2.1 u.1 (h _ List.mem_cons_self))
noncomputable def E_attach_Wanted_r : Env := envOf (P := Try.prog) [attach_get_fact, attach_put_string_string_fact] [] [] ckf true
def attach_Wanted_rF (a1 : XObj) (b1 : List XObj) (b2 : ByteArray) (b3 : List ByteArray) : List ByteArray :=
  cond (cond (cond (!(a1.kind == (6 : Int))) true a1.deleting) true (decide (a1.node = (⟨#[]⟩ : ByteArray))))
    b3
    (cond (cond (cond ((attach_getF b1 (3 : Int) a1.claim).2) ((((attach_getF b1 (3 : Int) a1.claim).1).phase) == (3 : Int)) false) (decide ((((attach_getF b1 (3 : Int) a1.claim).1).volume) = b2)) false)
      (attach_put_string_stringF a1.node b3)
      b3)
def attach_Wanted_rQ (a1 : XObj) (b1 : List XObj) (b2 : ByteArray) (b3 : List ByteArray) : RT :=
  (.leaf .normal ⟨slots 63 [(2, .ptr 1 0), (3, .ptr 2 0), (7, .ptr 3 0), (8, .ptr 4 0)], [.dead, .cells 22 [.coll ⟨.obj, b1⟩], .cells 9 [.str b2], .cells 26 [.vec 5], .cells 37 (oc a1), .vec false ⟨.str, b3⟩]⟩ [0, 1, 2, 3, 5, 4])
def attach_Wanted_rR (a1 : XObj) (b1 : List XObj) (b2 : ByteArray) (b3 : List ByteArray) : RT :=
  (.ask (cond (cond (!(a1.kind == (6 : Int))) true a1.deleting) true (decide (a1.node = (⟨#[]⟩ : ByteArray))))
    (.leaf .normal ⟨slots 63 [], [.dead, .cells 22 [.coll ⟨.obj, b1⟩], .cells 9 [.str b2], .cells 26 [.vec 4], .vec false ⟨.str, b3⟩]⟩ [0, 1, 2, 3, 5])
    (.need [b1.length < 4611686018427387904]
      (.ask (cond (cond ((attach_getF b1 (3 : Int) a1.claim).2) ((((attach_getF b1 (3 : Int) a1.claim).1).phase) == (3 : Int)) false) (decide ((((attach_getF b1 (3 : Int) a1.claim).1).volume) = b2)) false)
        (.need [b3.length ≤ 64]
          (.leaf .normal ⟨slots 63 [], [.dead, .cells 22 [.coll ⟨.obj, b1⟩], .cells 9 [.str b2], .cells 26 [.vec 4], .vec false ⟨.str, attach_put_string_stringF a1.node b3⟩]⟩ [0, 1, 2, 3, 7]))
        (.leaf .normal ⟨slots 63 [], [.dead, .cells 22 [.coll ⟨.obj, b1⟩], .cells 9 [.str b2], .cells 26 [.vec 4], .vec false ⟨.str, b3⟩]⟩ [0, 1, 2, 3, 5]))))
theorem attach_Wanted_r_tr (a1 : XObj) (b1 : List XObj) (b2 : ByteArray) (b3 : List ByteArray) (hp0 : b1.length < 4611686018427387904) (hp1 : b3.length ≤ 64) : Tr Try.prog 4 (Globs.site 2).2.1 ⟨slots 63 [(2, .ptr 1 0), (3, .ptr 2 0), (7, .ptr 3 0), (26, .agg (oc a1))], .dead :: [.cells 22 [.coll ⟨.obj, b1⟩], .cells 9 [.str b2], .var 26 false ⟨.str, b3⟩]⟩ (fun e s1 => e = .normal ∧ Tr Try.prog 4 (Globs.site 2).2.2 s1 (rdEnds (true) .normal [.cells 22 [.coll ⟨.obj, b1⟩], .cells 9 [.str b2], .var 26 false ⟨.str, attach_Wanted_rF a1 b1 b2 b3⟩] .normal [.cells 22 [.coll ⟨.obj, b1⟩], .cells 9 [.str b2], .var 26 false ⟨.str, attach_Wanted_rF a1 b1 b2 b3⟩])) := by
  refine Tr.pre (Turn.unfold 3 4 rfl (by simp)) ?_
  refine Tr_tree (kok _ _ _ _ _ _) (E := E_attach_Wanted_r) (L := noLoops) 60 9999 LoopsOk.none (attach_Wanted_rQ a1 b1 b2 b3) (by kernel_rfl) (by kernel_rfl) (by kernel_rfl) ?_
  unfold attach_Wanted_rQ
  refine ⟨rfl, ?_⟩
  refine Tr.post ?_
  refine Tr_tree (kok _ _ _ _ _ _) (E := E_attach_Wanted_r) (L := noLoops) 60 9999 LoopsOk.none (attach_Wanted_rR a1 b1 b2 b3) (by kernel_rfl) (by kernel_rfl) (by kernel_rfl) ?_
  unfold attach_Wanted_rR
  refine ⟨fun h0 => ?_, fun h0 => ?_⟩
  · have hF : attach_Wanted_rF a1 b1 b2 b3 = b3 := by first | exact (cond_t h0 rfl) | simp only [attach_Wanted_rF, h0, cond_true, cond_false]
    exact ⟨_, Turn.fold 3 4 rfl rfl, .inl ⟨rfl, rfl, by first | (rw [hF]; kernel_rfl) | kernel_rfl⟩⟩
  · refine ⟨need_cons (by assumption) (need_nil), ?_⟩
    refine ⟨fun h1 => ?_, fun h1 => ?_⟩
    · refine ⟨need_cons (by assumption) (need_nil), ?_⟩
      have hF : attach_Wanted_rF a1 b1 b2 b3 = attach_put_string_stringF a1.node b3 := by first | exact (cond_f h0 (cond_t h1 rfl)) | simp only [attach_Wanted_rF, h0, h1, cond_true, cond_false]
      exact ⟨_, Turn.fold 3 4 rfl rfl, .inl ⟨rfl, rfl, by first | (rw [hF]; kernel_rfl) | kernel_rfl⟩⟩
    · have hF : attach_Wanted_rF a1 b1 b2 b3 = b3 := by first | exact (cond_f h0 (cond_f h1 rfl)) | simp only [attach_Wanted_rF, h0, h1, cond_true, cond_false]
      exact ⟨_, Turn.fold 3 4 rfl rfl, .inl ⟨rfl, rfl, by first | (rw [hF]; kernel_rfl) | kernel_rfl⟩⟩
noncomputable def attach_Wanted_r_fact : FactY Try.prog := factY 2 [.st .obj] (cpsOf 63 [(2, .ptr 1 0), (3, .ptr 2 0), (7, .ptr 3 0)]) [.cells 22 [.coll .obj], .cells 9 [.str], .var 26 false .str] (fun t u => true) .normal .normal none none (fun t u => [.cells 22 [.coll ⟨.obj, u.2.1.1⟩], .cells 9 [.str u.2.2.1.1], .var 26 false ⟨.str, attach_Wanted_rF t.2.1 u.2.1.1 u.2.2.1.1 u.2.2.2.1⟩]) (fun t u => [.cells 22 [.coll ⟨.obj, u.2.1.1⟩], .cells 9 [.str u.2.2.1.1], .var 26 false ⟨.str, attach_Wanted_rF t.2.1 u.2.1.1 u.2.2.1.1 u.2.2.2.1⟩]) (fun t u => [u.2.1.1.length < 4611686018427387904, u.2.2.2.1.length ≤ 64]) rfl rfl
  (fun t u => by kernel_rfl) (fun t => by kernel_rfl) (fun t u => by kernel_rfl) (fun t u => by kernel_rfl) (fun t u => by kernel_rfl) (fun t u => slots 63 [(2, .ptr 1 0), (3, .ptr 2 0), (7, .ptr 3 0), (26, .agg (oc t.2.1))]) (fun t u => by kernel_rfl) (fun t u h => attach_Wanted_r_tr t.2.1 u.2.1.1 u.2.2.1.1 u.2.2.2.1 (h _ List.mem_cons_self) (h _ (List.mem_cons_of_mem _ List.mem_cons_self)))
noncomputable def E_attach_Wanted_it : Env := envOf (P := Try.prog) [object_Key_fact] [] [] ckf false [attach_Wanted_r_fact]
theorem putS_len (x : ByteArray) (l : List ByteArray) : (attach_put_string_stringF x l).length ≤ l.length + 1 := by
  unfold attach_put_string_stringF
  cases (slices_BinarySearchFunc_string_string_stringF (attach_Wanted_1F x) l).2 with
  | true => simp
  | false =>
    simp only [cond_false, List.length_append, List.length_cons, List.length_nil, List.length_take, List.length_drop]
    omega
theorem attach_Wanted_r_len (o : XObj) (a : List XObj) (n : ByteArray) (l : List ByteArray) : (attach_Wanted_rF o a n l).length ≤ l.length + 1 := by
  unfold attach_Wanted_rF
  cases cond (cond (!(o.kind == (6 : Int))) true o.deleting) true (decide (o.node = (⟨#[]⟩ : ByteArray))) with
  | true => exact Nat.le_succ _
  | false =>
    rw [cond_false]
    cases cond (cond ((attach_getF a (3 : Int) o.claim).2) ((((attach_getF a (3 : Int) o.claim).1).phase) == (3 : Int)) false) (decide ((((attach_getF a (3 : Int) o.claim).1).volume) = n)) false with
    | true => exact putS_len _ _
    | false => exact Nat.le_succ _
def attach_Wanted_itLF (a0 : List XObj) (a1 : ByteArray) : List XObj → List ByteArray → List (XKey × Bool) → List ByteArray
  | [], v5, v7 => v5
  | o :: r, v5, v7 => cond (!((mget (k := .key) (v := .bool) v7 (object_KeyF o)).getD default))
    (attach_Wanted_itLF a0 a1 r (attach_Wanted_rF o a0 a1 v5) (mset (k := .key) (v := .bool) v7 (object_KeyF o) true))
    (attach_Wanted_itLF a0 a1 r v5 (mset (k := .key) (v := .bool) v7 (object_KeyF o) true))
def attach_Wanted_itLS (a0 : List XObj) (a1 : ByteArray) (i : Nat) (v5 : List ByteArray) (v7 : List (XKey × Bool)) : St :=
  ⟨slots 29 [(0, .yld 4), (3, .map 5), (8, .coll ⟨.obj, attach_firstsF a0⟩), (9, .int .i64 ((attach_firstsF a0).length : Int)), (10, .int .i64 (i : Int))], [.cells 22 [.coll ⟨.obj, a0⟩], .cells 9 [.str a1], .var 26 false ⟨.str, v5⟩, .cells 22 [.coll ⟨.obj, attach_firstsF a0⟩], .loop 2 (slots 63 [(2, .ptr 0 0), (3, .ptr 1 0), (7, .ptr 2 0)]) none, .map ⟨.key, .bool, v7⟩]⟩
def attach_Wanted_itLR (a0 : List XObj) (a1 : ByteArray) (i : Nat) (v5 : List ByteArray) (v7 : List (XKey × Bool)) : RT :=
  (.ask (decide ((i : Int) < ((attach_firstsF a0).length : Int)))
    (.need [0 ≤ (i : Int) ∧ (i : Int) < ((attach_firstsF a0).length : Int)]
      (.ask (!((mget (k := .key) (v := .bool) v7 (object_KeyF ((attach_firstsF a0).getD i default))).getD default))
        (.ask true
          (.need [a0.length < 4611686018427387904, v5.length ≤ 64]
            (.ask false
              .fail
              (.leaf .normal ⟨slots 29 [(0, .yld 4), (3, .map 5), (8, .coll ⟨.obj, attach_firstsF a0⟩), (9, .int .i64 ((attach_firstsF a0).length : Int)), (10, .int .i64 (IntKind.i64.wrap ((i : Int) + (1 : Int))))], [.cells 22 [.coll ⟨.obj, a0⟩], .cells 9 [.str a1], .var 26 false ⟨.str, attach_Wanted_rF ((attach_firstsF a0).getD i default) a0 a1 v5⟩, .cells 22 [.coll ⟨.obj, attach_firstsF a0⟩], .loop 2 (slots 63 [(2, .ptr 0 0), (3, .ptr 1 0), (7, .ptr 2 0)]) none, .map ⟨.key, .bool, (mset (k := .key) (v := .bool) v7 (object_KeyF ((attach_firstsF a0).getD i default)) true)⟩]⟩ [])))
          .fail)
        (.ask false
          .fail
          (.leaf .normal ⟨slots 29 [(0, .yld 4), (3, .map 5), (8, .coll ⟨.obj, attach_firstsF a0⟩), (9, .int .i64 ((attach_firstsF a0).length : Int)), (10, .int .i64 (IntKind.i64.wrap ((i : Int) + (1 : Int))))], [.cells 22 [.coll ⟨.obj, a0⟩], .cells 9 [.str a1], .var 26 false ⟨.str, v5⟩, .cells 22 [.coll ⟨.obj, attach_firstsF a0⟩], .loop 2 (slots 63 [(2, .ptr 0 0), (3, .ptr 1 0), (7, .ptr 2 0)]) none, .map ⟨.key, .bool, (mset (k := .key) (v := .bool) v7 (object_KeyF ((attach_firstsF a0).getD i default)) true)⟩]⟩ []))))
    (.leaf (.exit 0) ⟨slots 29 [], [.cells 22 [.coll ⟨.obj, a0⟩], .cells 9 [.str a1], .var 26 false ⟨.str, v5⟩, .cells 22 [.coll ⟨.obj, attach_firstsF a0⟩], .loop 2 (slots 63 [(2, .ptr 0 0), (3, .ptr 1 0), (7, .ptr 2 0)]) none]⟩ []))
def attach_Wanted_itLT (a0 : List XObj) (a1 : ByteArray) (i : Nat) (v5 : List ByteArray) (v7 : List (XKey × Bool)) : Tree :=
  .leaf (.exit 0) ⟨slots 29 [], [.cells 22 [.coll ⟨.obj, a0⟩], .cells 9 [.str a1], .var 26 false ⟨.str, attach_Wanted_itLF a0 a1 ((attach_firstsF a0).drop i) v5 v7⟩, .cells 22 [.coll ⟨.obj, attach_firstsF a0⟩], .loop 2 (slots 63 [(2, .ptr 0 0), (3, .ptr 1 0), (7, .ptr 2 0)]) none]⟩
theorem attach_Wanted_itL_loop (a0 : List XObj) (a1 : ByteArray) (hp0 : a0.length ≤ 64) (hlen : (attach_firstsF a0).length < 4611686018427387904) (z : { z : Nat × List ByteArray × (List (XKey × Bool)) // z.1 ≤ (attach_firstsF a0).length ∧ z.2.1.length ≤ z.1 }) (Q : Exit → St → Prop) (h : (attach_Wanted_itLT a0 a1 z.1.1 z.1.2.1 z.1.2.2).All Q) : Tr Try.prog 5 (.loop (loopAt Try.f54 0)) (attach_Wanted_itLS a0 a1 z.1.1 z.1.2.1 z.1.2.2) Q := by
  refine Tr_loopT (kok _ _ _ _ _ _) (E := E_attach_Wanted_it) (ι := { z : Nat × List ByteArray × (List (XKey × Bool)) // z.1 ≤ (attach_firstsF a0).length ∧ z.2.1.length ≤ z.1 }) 60 0 (fun _ => noLoops) (fun z => attach_Wanted_itLS a0 a1 z.1.1 z.1.2.1 z.1.2.2) (fun z => attach_Wanted_itLT a0 a1 z.1.1 z.1.2.1 z.1.2.2) (fun z => attach_Wanted_itLR a0 a1 z.1.1 z.1.2.1 z.1.2.2) (fun z => (attach_firstsF a0).length - z.1.1) (fun _ => LoopsOk.none) (fun z => by obtain ⟨⟨i, v5, v7⟩, hi⟩ := z; kernel_rfl) (fun z => by obtain ⟨⟨i, v5, v7⟩, hi⟩ := z; kernel_rfl) (fun z => by obtain ⟨⟨i, v5, v7⟩, hi⟩ := z; kernel_rfl) ?_ z Q h
  rintro ⟨⟨i, v5, v7⟩, hi⟩ Q hT
  replace hT : (attach_Wanted_itLT a0 a1 i v5 v7).All Q := hT
  replace hi : i ≤ (attach_firstsF a0).length ∧ v5.length ≤ i := hi
  show (attach_Wanted_itLR a0 a1 i v5 v7).All _
  unfold attach_Wanted_itLR
  refine ⟨fun h0 => ?_, fun h0 => ?_⟩
  · have hlt : i < (attach_firstsF a0).length := by simpa using h0
    have hd := drop_getD hlt
    have hw := wrap_succ (i := i) (by omega)
    refine ⟨need_cons (by first | assumption | omega | (intro; omega) | (simp only [decide_eq_true_eq, decide_eq_false_iff_not, Bool.cond_false_right, Bool.cond_true_right, Bool.cond_true_left, Bool.cond_false_left, Bool.and_eq_true, Bool.or_eq_true, Bool.not_eq_true', bytesLim, maxLen, List.length_cons, List.length_nil, List.length_append, byteSize_lit] at *; omega) | (intro; simp only [decide_eq_true_eq, decide_eq_false_iff_not, Bool.cond_false_right, Bool.cond_true_right, Bool.cond_true_left, Bool.cond_false_left, Bool.and_eq_true, Bool.or_eq_true, Bool.not_eq_true', bytesLim, maxLen, List.length_cons, List.length_nil, List.length_append, byteSize_lit] at *; omega)) (need_nil), ?_⟩
    refine ⟨fun h1 => ?_, fun h1 => ?_⟩
    · refine ⟨fun h2 => ?_, fun h2 => ?_⟩
      · refine ⟨need_cons (by omega) (need_cons (by have e9 : (attach_firstsF a0).length = a0.length := rfl; omega) (need_nil)), ?_⟩
        refine ⟨fun h3 => ?_, fun h3 => ?_⟩
        · exact absurd h3 (by simp)
        · have hF : attach_Wanted_itLF a0 a1 ((attach_firstsF a0).drop i) v5 v7 = attach_Wanted_itLF a0 a1 ((attach_firstsF a0).drop (i + 1)) (attach_Wanted_rF ((attach_firstsF a0).getD i default) a0 a1 v5) (mset (k := .key) (v := .bool) v7 (object_KeyF ((attach_firstsF a0).getD i default)) true) := by rw [hd]; first | exact (cond_t h1 (cond_t h2 (cond_f h3 rfl))) | simp only [attach_Wanted_itLF, h0, h1, h2, h3, cond_true, cond_false]
          refine ⟨⟨((i + 1), attach_Wanted_rF ((attach_firstsF a0).getD i default) a0 a1 v5, (mset (k := .key) (v := .bool) v7 (object_KeyF ((attach_firstsF a0).getD i default)) true)), by (first | dsimp only | skip); refine ⟨by omega, ?_⟩; first | omega | exact Nat.le_trans (attach_Wanted_r_len _ _ _ _) (by omega)⟩, by show (attach_firstsF a0).length - (i + 1) < (attach_firstsF a0).length - i; omega, ?_, ?_⟩
          · show _ = attach_Wanted_itLS a0 a1 (i + 1) (attach_Wanted_rF ((attach_firstsF a0).getD i default) a0 a1 v5) (mset (k := .key) (v := .bool) v7 (object_KeyF ((attach_firstsF a0).getD i default)) true)
            unfold attach_Wanted_itLS
            simp only [hw]
          · show (attach_Wanted_itLT a0 a1 (i + 1) (attach_Wanted_rF ((attach_firstsF a0).getD i default) a0 a1 v5) (mset (k := .key) (v := .bool) v7 (object_KeyF ((attach_firstsF a0).getD i default)) true)).All Q
            unfold attach_Wanted_itLT at hT ⊢
            rw [hF] at hT
            exact hT
      · exact absurd h2 (by simp)
    · refine ⟨fun h2 => ?_, fun h2 => ?_⟩
      · exact absurd h2 (by simp)
      · have hF : attach_Wanted_itLF a0 a1 ((attach_firstsF a0).drop i) v5 v7 = attach_Wanted_itLF a0 a1 ((attach_firstsF a0).drop (i + 1)) v5 (mset (k := .key) (v := .bool) v7 (object_KeyF ((attach_firstsF a0).getD i default)) true) := by rw [hd]; first | exact (cond_f h1 (cond_f h2 rfl)) | simp only [attach_Wanted_itLF, h0, h1, h2, cond_true, cond_false]
        refine ⟨⟨((i + 1), v5, (mset (k := .key) (v := .bool) v7 (object_KeyF ((attach_firstsF a0).getD i default)) true)), by (first | dsimp only | skip); refine ⟨by omega, ?_⟩; first | omega | exact Nat.le_trans (attach_Wanted_r_len _ _ _ _) (by omega)⟩, by show (attach_firstsF a0).length - (i + 1) < (attach_firstsF a0).length - i; omega, ?_, ?_⟩
        · show _ = attach_Wanted_itLS a0 a1 (i + 1) v5 (mset (k := .key) (v := .bool) v7 (object_KeyF ((attach_firstsF a0).getD i default)) true)
          unfold attach_Wanted_itLS
          simp only [hw]
        · show (attach_Wanted_itLT a0 a1 (i + 1) v5 (mset (k := .key) (v := .bool) v7 (object_KeyF ((attach_firstsF a0).getD i default)) true)).All Q
          unfold attach_Wanted_itLT at hT ⊢
          rw [hF] at hT
          exact hT
  · have hge : ¬ i < (attach_firstsF a0).length := by simpa using h0
    have hd : (attach_firstsF a0).drop i = [] := List.drop_eq_nil_of_le (by omega)
    have hF : attach_Wanted_itLF a0 a1 ((attach_firstsF a0).drop i) v5 v7 = v5 := by rw [hd]; first | exact rfl | simp only [attach_Wanted_itLF, h0, cond_true, cond_false]
    unfold attach_Wanted_itLT at hT
    rw [hF] at hT
    exact hT
def attach_Wanted_itS (a0 : List XObj) (a1 : ByteArray) : St :=
  ⟨slots 63 [(2, .ptr 0 0), (3, .ptr 1 0), (7, .ptr 2 0), (25, .fn 54 [.ptr 3 0])], [.cells 22 [.coll ⟨.obj, a0⟩], .cells 9 [.str a1], .cells 26 [.vec 4], .cells 22 [.coll ⟨.obj, attach_firstsF a0⟩], .vec false ⟨.str, []⟩]⟩
def attach_Wanted_itR (a0 : List XObj) (a1 : ByteArray) : RT :=
  (.leaf .normal ⟨slots 29 [], [.cells 22 [.coll ⟨.obj, a0⟩], .cells 9 [.str a1], .var 26 false ⟨.str, attach_Wanted_itLF a0 a1 (attach_firstsF a0) [] []⟩, .cells 22 [.coll ⟨.obj, attach_firstsF a0⟩], .loop 2 (slots 63 [(2, .ptr 0 0), (3, .ptr 1 0), (7, .ptr 2 0)]) none]⟩ [])
def attach_Wanted_itT (a0 : List XObj) (a1 : ByteArray) : Tree :=
  .leaf .normal ⟨slots 63 [(2, .ptr 0 0), (3, .ptr 1 0), (7, .ptr 2 0), (25, .fn 54 [.ptr 3 0])], [.cells 22 [.coll ⟨.obj, a0⟩], .cells 9 [.str a1], .cells 26 [.vec 5], .cells 22 [.coll ⟨.obj, attach_firstsF a0⟩], .dead, .vec false ⟨.str, attach_Wanted_itLF a0 a1 (attach_firstsF a0) [] []⟩]⟩
theorem attach_Wanted_it_rg (a0 : List XObj) (a1 : ByteArray) (hp0 : a0.length ≤ 64) (Q : Exit → St → Prop) (hT : (attach_Wanted_itT a0 a1).All Q) : Tr Try.prog 0 (loopAt Try.f14 0) (attach_Wanted_itS a0 a1) Q := by
  have hc : loopAt Try.f14 0 = .rangeFunc (.tmp 25) (Globs.site 2).1 (Globs.site 2).2.1 (Globs.site 2).2.2 := by kernel_rfl
  rw [hc]
  refine Tr.pre (Turn.fold 2 4 rfl rfl) ?_
  refine Tr.pre (Turn.fits (p := ⟨slots 63 [(2, .ptr 0 0), (3, .ptr 1 0), (7, .ptr 2 0), (25, .fn 54 [.ptr 3 0])], [.cells 22 [.coll ⟨.obj, a0⟩], .cells 9 [.str a1], .var 26 false ⟨.str, []⟩, .cells 22 [.coll ⟨.obj, attach_firstsF a0⟩]]⟩) [] (by kernel_rfl) (by kernel_rfl) (by kernel_rfl) (by kernel_rfl)) ?_
  refine Tr.post ?_
  refine Tr_range (site := 2) (gf := 54) (fn := Try.f54) (c := bodyOf Try.f54) (cap := [.ptr 3 0]) 4 [2, 3, 7] (slots 63 [(2, .ptr 0 0), (3, .ptr 1 0), (7, .ptr 2 0)]) [.yld 4, .ptr 3 0] [.cells 22 [.coll ⟨.obj, a0⟩], .cells 9 [.str a1], .var 26 false ⟨.str, []⟩, .cells 22 [.coll ⟨.obj, attach_firstsF a0⟩], .loop 2 (slots 63 [(2, .ptr 0 0), (3, .ptr 1 0), (7, .ptr 2 0)]) none] rfl (by kernel_rfl) (by kernel_rfl) rfl (by kernel_rfl) (by kernel_rfl) (by kernel_rfl) (by kernel_rfl) (by kernel_rfl) (by kernel_rfl) (by kernel_rfl) (by kernel_rfl) ?_
  refine Tr_tree (kok _ _ _ _ _ _) (E := E_attach_Wanted_it) (L := (loopsOf [(0, attach_Wanted_itLS a0 a1 0 [] [], [], attach_Wanted_itLT a0 a1 0 [] [])])) 60 9999 (LoopsOk.one (g := loopAt Try.f54 0) (b := 0) (by kernel_rfl) (by kernel_rfl) (by kernel_rfl) (by kernel_rfl) (fun Q h => attach_Wanted_itL_loop a0 a1 hp0 (by show a0.length < _; omega) ⟨(0, [], []), ⟨Nat.zero_le _, Nat.le_refl _⟩⟩ Q h)) (attach_Wanted_itR a0 a1) (by kernel_rfl) (by kernel_rfl) (by kernel_rfl) ?_
  unfold attach_Wanted_itR
  unfold attach_Wanted_itT at hT
  exact ⟨⟨trivial, .tup [], by kernel_rfl⟩, none, [.cells 22 [.coll ⟨.obj, a0⟩], .cells 9 [.str a1], .var 26 false ⟨.str, attach_Wanted_itLF a0 a1 (attach_firstsF a0) [] []⟩, .cells 22 [.coll ⟨.obj, attach_firstsF a0⟩], .dead], by kernel_rfl, rfl, by kernel_rfl, by kernel_rfl, by kernel_rfl, by kernel_rfl, ⟨_, Turn.unfold 2 5 rfl (by simp), hT⟩⟩
noncomputable def E_attach_Wanted : Env := envOf (P := Try.prog) [attach_get_fact, attach_firsts_fact] [] [] ckf true
def attach_WantedF (a0 : List XObj) (a1 : ByteArray) : List ByteArray :=
  cond (cond (!((attach_getF a0 (4 : Int) a1).2)) true (!((((attach_getF a0 (4 : Int) a1).1).phase) == (3 : Int))))
    []
    (attach_Wanted_itLF a0 a1 (attach_firstsF a0) [] [])
def attach_WantedR (a0 : List XObj) (a1 : ByteArray) : RT :=
  (.need [a0.length < 4611686018427387904]
    (.ask (cond (!((attach_getF a0 (4 : Int) a1).2)) true (!((((attach_getF a0 (4 : Int) a1).1).phase) == (3 : Int))))
      (.leaf .ret ⟨slots 63 [(4, .vec 0)], [.vec false ⟨.str, []⟩]⟩ [4])
      (.leaf .ret ⟨slots 63 [(4, .vec 0)], [.vec false ⟨.str, attach_Wanted_itLF a0 a1 (attach_firstsF a0) [] []⟩]⟩ [5])))
theorem attach_WantedF_tr (a0 : List XObj) (a1 : ByteArray) (hp0 : a0.length ≤ 64) : Tr Try.prog 0 (bodyOf Try.f14) (fnBegins Try.f14 [.coll ⟨.obj, a0⟩, .str a1] []) (fnEnds Try.prog Try.f14 (.vec 0) [.vec false ⟨.str, attach_WantedF a0 a1⟩]) := by
  refine Tr_tree (kok _ _ _ _ _ _) (E := E_attach_Wanted) (L := (loopsOf [(0, attach_Wanted_itS a0 a1, [0, 1, 4, 6, 5], attach_Wanted_itT a0 a1)])) 60 9999 (LoopsOk.oneR (g := loopAt Try.f14 0) (b := 0) (by kernel_rfl) (by kernel_rfl) (by kernel_rfl) (by kernel_rfl) (fun Q h => attach_Wanted_it_rg a0 a1 hp0 Q h)) (attach_WantedR a0 a1) (by kernel_rfl) (by kernel_rfl) (by kernel_rfl) ?_
  unfold attach_WantedR
  refine ⟨need_cons (by omega) (need_nil), ?_⟩
  refine ⟨fun h0 => ?_, fun h0 => ?_⟩
  · have hF : attach_WantedF a0 a1 = [] := by first | exact (cond_t h0 rfl) | simp only [attach_WantedF, h0, cond_true, cond_false]
    exact ⟨trivial, .inl (by first | (rw [hF]; kernel_rfl) | kernel_rfl), by first | (rw [hF]; kernel_rfl) | kernel_rfl⟩
  · have hF : attach_WantedF a0 a1 = (attach_Wanted_itLF a0 a1 (attach_firstsF a0) [] []) := by first | exact (cond_f h0 rfl) | simp only [attach_WantedF, h0, cond_true, cond_false]
    exact ⟨trivial, .inl (by first | (rw [hF]; kernel_rfl) | kernel_rfl), by first | (rw [hF]; kernel_rfl) | kernel_rfl⟩
noncomputable def attach_Wanted_fact : Fact Try.prog := factOf 14 Try.f14 (by kernel_rfl) rfl (by kernel_rfl) [.c (.coll .obj), .c (.str)] [] false (fun t u => .vec 0) (fun t u => [.vec false ⟨.str, attach_WantedF t.1 t.2.1⟩]) (fun t u => [t.1.length ≤ 64])
  (nofun) (fun t u => by kernel_rfl) (fun t u => by kernel_rfl) (fun t u h => attach_WantedF_tr t.1 t.2.1 (h _ List.mem_cons_self))
end Go.Proofs.Ytbcnehpndoghcaa
