/- Topo: cutting a text. -/
import Derived.Test.YtbjlmmeabonbpaaDoorDRight
import Derived.Test.YtbjlmmeabonbpaaDoorDLib1
set_option linter.unusedVariables false
set_option linter.unusedSimpArgs false
set_option maxRecDepth 100000
namespace Go.Proofs.YtbjlmmeabonbpaaDoor
open Go Go.Eng
noncomputable def E_stringslite_Cut : Env := envOf (P := Tryd.prog) [idx1_fact] [] [] ckf
def stringslite_CutF (a0 : ByteArray) (a1 : ByteArray) : ByteArray × ByteArray × Bool :=
  cond (decide ((idx1 a0 a1) ≥ (0 : Int)))
    (a0.extract 0 ((idx1 a0 a1).toNat), a0.extract ((IntKind.i64.wrap ((idx1 a0 a1) + (a1.size : Int))).toNat) a0.size, true)
    (a0, (⟨#[]⟩ : ByteArray), false)
def stringslite_CutR (a0 : ByteArray) (a1 : ByteArray) : RT :=
  (.need [a1.size = 1]
    (.ask (decide ((idx1 a0 a1) ≥ (0 : Int)))
      (.need [0 ≤ (0 : Int) ∧ (0 : Int) ≤ (idx1 a0 a1) ∧ (idx1 a0 a1) ≤ (a0.size : Int), 0 ≤ (IntKind.i64.wrap ((idx1 a0 a1) + (a1.size : Int))) ∧ (IntKind.i64.wrap ((idx1 a0 a1) + (a1.size : Int))) ≤ (a0.size : Int) ∧ (a0.size : Int) ≤ (a0.size : Int)]
        (.leaf .ret ⟨slots 23 [(4, .str (a0.extract 0 ((idx1 a0 a1).toNat))), (5, .str (a0.extract ((IntKind.i64.wrap ((idx1 a0 a1) + (a1.size : Int))).toNat) a0.size)), (6, .bool true)], []⟩ []))
      (.leaf .ret ⟨slots 23 [(4, .str a0), (5, .str (⟨#[]⟩ : ByteArray)), (6, .bool false)], []⟩ [])))
theorem stringslite_CutF_tr (a0 : ByteArray) (a1 : ByteArray) (hp0 : a1.size = 1) (hp1 : a0.size < 4611686018427387904) : Tr Tryd.prog 0 (bodyOf Tryd.f71) (fnBegins Tryd.f71 [.str a0, .str a1] []) (fnEnds Tryd.prog Tryd.f71 (.tup [.str ((stringslite_CutF a0 a1).1), .str ((stringslite_CutF a0 a1).2.1), .bool ((stringslite_CutF a0 a1).2.2)]) []) := by
  refine Tr_tree (kok _ _ _ _ _ _) (E := E_stringslite_Cut) (L := noLoops) 60 9999 LoopsOk.none (stringslite_CutR a0 a1) (by kernel_rfl) (by kernel_rfl) (by kernel_rfl) ?_
  unfold stringslite_CutR
  refine ⟨need_cons (by first | assumption | omega | (intro; omega) | (simp only [decide_eq_true_eq, decide_eq_false_iff_not, Bool.cond_false_right, Bool.cond_true_right, Bool.cond_true_left, Bool.cond_false_left, Bool.and_eq_true, Bool.or_eq_true, Bool.not_eq_true', bytesLim, maxLen, List.length_cons, List.length_nil, List.length_append, byteSize_lit] at *; omega) | (intro; simp only [decide_eq_true_eq, decide_eq_false_iff_not, Bool.cond_false_right, Bool.cond_true_right, Bool.cond_true_left, Bool.cond_false_left, Bool.and_eq_true, Bool.or_eq_true, Bool.not_eq_true', bytesLim, maxLen, List.length_cons, List.length_nil, List.length_append, byteSize_lit] at *; omega)) (need_nil), ?_⟩
  refine ⟨fun h0 => ?_, fun h0 => ?_⟩
  · refine ⟨need_cons (by simp only [decide_eq_true_eq] at h0; (try rw [IntKind.wrap_i64]); rcases idx1_cases a0 a1 hp0 with h9 | ⟨k9, h9, h8⟩ <;> omega) (need_cons (by simp only [decide_eq_true_eq] at h0; (try rw [IntKind.wrap_i64]); rcases idx1_cases a0 a1 hp0 with h9 | ⟨k9, h9, h8⟩ <;> omega) (need_nil)), ?_⟩
    have hF : stringslite_CutF a0 a1 = (a0.extract 0 ((idx1 a0 a1).toNat), a0.extract ((IntKind.i64.wrap ((idx1 a0 a1) + (a1.size : Int))).toNat) a0.size, true) := by first | exact (cond_t h0 rfl) | simp only [stringslite_CutF, h0, cond_true, cond_false]
    exact ⟨trivial, .inl (by first | (rw [hF]; kernel_rfl) | kernel_rfl), by first | (rw [hF]; kernel_rfl) | kernel_rfl⟩
  · have hF : stringslite_CutF a0 a1 = (a0, (⟨#[]⟩ : ByteArray), false) := by first | exact (cond_f h0 rfl) | simp only [stringslite_CutF, h0, cond_true, cond_false]
    exact ⟨trivial, .inl (by first | (rw [hF]; kernel_rfl) | kernel_rfl), by first | (rw [hF]; kernel_rfl) | kernel_rfl⟩
noncomputable def stringslite_Cut_fact : Fact Tryd.prog := factOf 71 Tryd.f71 (by kernel_rfl) rfl (by kernel_rfl) [.c (.str), .c (.str)] [] true (fun t u => .tup [.str ((stringslite_CutF t.1 t.2.1).1), .str ((stringslite_CutF t.1 t.2.1).2.1), .bool ((stringslite_CutF t.1 t.2.1).2.2)]) (fun t u => []) (fun t u => [t.2.1.size = 1, t.1.size < 4611686018427387904])
  (fun _ _ _ => rfl) (fun t u => by kernel_rfl) (fun t u => by kernel_rfl) (fun t u h => stringslite_CutF_tr t.1 t.2.1 (h _ List.mem_cons_self) (h _ (List.mem_cons_of_mem _ List.mem_cons_self)))
noncomputable def E_strings_Cut : Env := envOf (P := Tryd.prog) [stringslite_Cut_fact] [] [] ckf
def strings_CutF (a0 : ByteArray) (a1 : ByteArray) : ByteArray × ByteArray × Bool :=
  ((stringslite_CutF a0 a1).1, (stringslite_CutF a0 a1).2.1, (stringslite_CutF a0 a1).2.2)
def strings_CutR (a0 : ByteArray) (a1 : ByteArray) : RT :=
  (.need [a1.size = 1, a0.size < 4611686018427387904]
    (.leaf .ret ⟨slots 13 [(4, .str ((stringslite_CutF a0 a1).1)), (5, .str ((stringslite_CutF a0 a1).2.1)), (6, .bool ((stringslite_CutF a0 a1).2.2))], []⟩ []))
theorem strings_CutF_tr (a0 : ByteArray) (a1 : ByteArray) (hp0 : a1.size = 1) (hp1 : a0.size < 4611686018427387904) : Tr Tryd.prog 0 (bodyOf Tryd.f38) (fnBegins Tryd.f38 [.str a0, .str a1] []) (fnEnds Tryd.prog Tryd.f38 (.tup [.str ((strings_CutF a0 a1).1), .str ((strings_CutF a0 a1).2.1), .bool ((strings_CutF a0 a1).2.2)]) []) := by
  refine Tr_tree (kok _ _ _ _ _ _) (E := E_strings_Cut) (L := noLoops) 60 9999 LoopsOk.none (strings_CutR a0 a1) (by kernel_rfl) (by kernel_rfl) (by kernel_rfl) ?_
  unfold strings_CutR
  refine ⟨need_cons (by first | assumption | omega | (intro; omega) | (simp only [decide_eq_true_eq, decide_eq_false_iff_not, Bool.cond_false_right, Bool.cond_true_right, Bool.cond_true_left, Bool.cond_false_left, Bool.and_eq_true, Bool.or_eq_true, Bool.not_eq_true', bytesLim, maxLen, List.length_cons, List.length_nil, List.length_append, byteSize_lit] at *; omega) | (intro; simp only [decide_eq_true_eq, decide_eq_false_iff_not, Bool.cond_false_right, Bool.cond_true_right, Bool.cond_true_left, Bool.cond_false_left, Bool.and_eq_true, Bool.or_eq_true, Bool.not_eq_true', bytesLim, maxLen, List.length_cons, List.length_nil, List.length_append, byteSize_lit] at *; omega)) (need_cons (by first | assumption | omega | (intro; omega) | (simp only [decide_eq_true_eq, decide_eq_false_iff_not, Bool.cond_false_right, Bool.cond_true_right, Bool.cond_true_left, Bool.cond_false_left, Bool.and_eq_true, Bool.or_eq_true, Bool.not_eq_true', bytesLim, maxLen, List.length_cons, List.length_nil, List.length_append, byteSize_lit] at *; omega) | (intro; simp only [decide_eq_true_eq, decide_eq_false_iff_not, Bool.cond_false_right, Bool.cond_true_right, Bool.cond_true_left, Bool.cond_false_left, Bool.and_eq_true, Bool.or_eq_true, Bool.not_eq_true', bytesLim, maxLen, List.length_cons, List.length_nil, List.length_append, byteSize_lit] at *; omega)) (need_nil)), ?_⟩
  exact ⟨trivial, .inl (by kernel_rfl), by kernel_rfl⟩
noncomputable def strings_Cut_fact : Fact Tryd.prog := factOf 38 Tryd.f38 (by kernel_rfl) rfl (by kernel_rfl) [.c (.str), .c (.str)] [] true (fun t u => .tup [.str ((strings_CutF t.1 t.2.1).1), .str ((strings_CutF t.1 t.2.1).2.1), .bool ((strings_CutF t.1 t.2.1).2.2)]) (fun t u => []) (fun t u => [t.2.1.size = 1, t.1.size < 4611686018427387904])
  (fun _ _ _ => rfl) (fun t u => by kernel_rfl) (fun t u => by kernel_rfl) (fun t u h => strings_CutF_tr t.1 t.2.1 (h _ List.mem_cons_self) (h _ (List.mem_cons_of_mem _ List.mem_cons_self)))
end Go.Proofs.YtbjlmmeabonbpaaDoor
