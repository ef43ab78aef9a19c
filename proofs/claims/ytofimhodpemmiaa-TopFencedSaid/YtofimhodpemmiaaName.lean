/- Names: what object.Name and the document's own say of a text. -/
import Derived.Test.YtofimhodpemmiaaEng14
import Derived.Test.YtofimhodpemmiaaProg
set_option maxRecDepth 100000
namespace Go.Proofs.Ytofimhodpemmiaa
open Go Go.Eng

/-- May this byte be in a name? -/
def okByte (b : Int) : Bool := (decide (97 ≤ b) && decide (b ≤ 122)) || (decide (48 ≤ b) && decide (b ≤ 57)) || b == 45 || b == 46 || b == 35 || b == 47
/-- All bytes from i on may be. -/
def okFrom (s : ByteArray) (i : Nat) : Bool := (s.data.toList.drop i).all fun b => okByte (b.toNat : Int)
theorem okFrom_step {s : ByteArray} {i : Nat} (h : i < s.size) : okFrom s i = (okByte (byteAt s (i : Int)) && okFrom s (i + 1)) := by
  have h' : i < s.data.toList.length := by simpa using h
  rw [byteAt_get h]
  unfold okFrom
  rw [List.drop_eq_getElem_cons h']
  rfl
theorem okFrom_end {s : ByteArray} {i : Nat} (h : s.size ≤ i) : okFrom s i = true := by
  unfold okFrom
  rw [List.drop_eq_nil_of_le (by simpa using h)]
  rfl
noncomputable def E0 : Env := envOf (P := Try.prog) [] [] [] fun _ => none
noncomputable def g28 : Code := loopAt Try.f28 0
def S28 (s : ByteArray) (i : Nat) : St := ⟨slots 57 [(0, .str s), (8, .int .i64 (s.size : Int)), (9, .int .i64 (i : Int))], []⟩
def R28 (s : ByteArray) (i : Nat) : Tree :=
  (.ask (decide ((i : Int) < (s.size : Int)))
    (.ask (cond (cond (cond (cond (cond (!(cond (decide ((byteAt s (i : Int)) ≥ (97 : Int))) (decide ((byteAt s (i : Int)) ≤ (122 : Int))) false)) (!(cond (decide ((byteAt s (i : Int)) ≥ (48 : Int))) (decide ((byteAt s (i : Int)) ≤ (57 : Int))) false)) false) (!((byteAt s (i : Int)) == (45 : Int))) false) (!((byteAt s (i : Int)) == (46 : Int))) false) (!((byteAt s (i : Int)) == (35 : Int))) false) (!((byteAt s (i : Int)) == (47 : Int))) false)
      (.leaf .ret ⟨slots 57 [(2, .bool false)], []⟩)
      (.leaf .normal ⟨slots 57 [(0, .str s), (8, .int .i64 (s.size : Int)), (9, .int .i64 (IntKind.i64.wrap ((i : Int) + (1 : Int))))], []⟩))
    (.leaf (.exit 0) ⟨slots 57 [(0, .str s)], []⟩))
def T28 (s : ByteArray) (i : Nat) : Tree := .ask (okFrom s i) (.leaf (.exit 0) ⟨slots 57 [(0, .str s)], []⟩) (.leaf .ret ⟨slots 57 [(2, .bool false)], []⟩)
theorem loop28 (s : ByteArray) (hs : s.size < 9223372036854775807) (i : { i : Nat // i ≤ s.size }) (Q : Exit → St → Prop) (h : (T28 s i.1).All Q) : Tr Try.prog 0 (.loop g28) (S28 s i.1) Q := by
  refine Tr_loopT (kok _ _ _ _) (E := E0) 40 0 (fun _ => noLoops) (fun i : { i : Nat // i ≤ s.size } => S28 s i.1) (fun i => T28 s i.1) (fun i => R28 s i.1) (fun i => s.size - i.1) (fun _ => .none) (fun i => by obtain ⟨i, hi⟩ := i; kernel_rfl) (fun i => by obtain ⟨i, hi⟩ := i; kernel_rfl) ?_ (fun i => by obtain ⟨i, hi⟩ := i; kernel_rfl) ?_ i Q h
  · rintro ⟨i, hi⟩ o ho hw
    rw [show obl (evCode E0 noLoops 40 0 g28 (S28 s i)) = [([(decide ((i : Int) < (s.size : Int)), true)], 0 ≤ (i : Int) ∧ (i : Int) < (s.size : Int))] from by kernel_rfl] at ho
    simp only [List.mem_singleton] at ho
    subst ho
    have hw := hw.1
    rw [decide_eq_true_eq] at hw
    exact ⟨by omega, hw⟩
  · rintro ⟨i, hi⟩ Q hT
    refine ⟨fun h1 => ⟨fun h2 => ?_, fun h2 => ?_⟩, fun h1 => ?_⟩
    · have h1 : i < s.size := by simpa using h1
      refine hT.2 ?_
      show okFrom s i = false
      rw [okFrom_step h1]
      revert h2
      unfold okByte
      show cond (cond (cond (cond (cond (!(cond (decide ((byteAt s (i : Int)) ≥ (97 : Int))) (decide ((byteAt s (i : Int)) ≤ (122 : Int))) false)) (!(cond (decide ((byteAt s (i : Int)) ≥ (48 : Int))) (decide ((byteAt s (i : Int)) ≤ (57 : Int))) false)) false) (!((byteAt s (i : Int)) == (45 : Int))) false) (!((byteAt s (i : Int)) == (46 : Int))) false) (!((byteAt s (i : Int)) == (35 : Int))) false) (!((byteAt s (i : Int)) == (47 : Int))) false = true → _
      generalize byteAt s (i : Int) = b
      intro h2
      simp only [Bool.cond_false_right, Bool.and_eq_true, Bool.not_eq_true', Bool.and_eq_false_iff, decide_eq_false_iff_not, beq_eq_false_iff_ne] at h2
      simp only [Bool.and_eq_false_iff, Bool.or_eq_false_iff, decide_eq_false_iff_not, beq_eq_false_iff_ne]
      left
      obtain ⟨⟨⟨⟨⟨a, b⟩, c⟩, d⟩, e⟩, f⟩ := h2
      refine ⟨⟨⟨⟨⟨?_, ?_⟩, c⟩, d⟩, e⟩, f⟩ <;> omega
    · have h1 : i < s.size := by simpa using h1
      refine ⟨⟨i + 1, by omega⟩, by show s.size - (i + 1) < s.size - i; omega, by show _ = S28 s (i + 1); unfold S28; rw [← wrap_succ (by omega)], ?_⟩
      have : okFrom s i = okFrom s (i + 1) := by
        rw [okFrom_step h1]
        have : okByte (byteAt s (i : Int)) = true := by
          revert h2
          unfold okByte
          show cond (cond (cond (cond (cond (!(cond (decide ((byteAt s (i : Int)) ≥ (97 : Int))) (decide ((byteAt s (i : Int)) ≤ (122 : Int))) false)) (!(cond (decide ((byteAt s (i : Int)) ≥ (48 : Int))) (decide ((byteAt s (i : Int)) ≤ (57 : Int))) false)) false) (!((byteAt s (i : Int)) == (45 : Int))) false) (!((byteAt s (i : Int)) == (46 : Int))) false) (!((byteAt s (i : Int)) == (35 : Int))) false) (!((byteAt s (i : Int)) == (47 : Int))) false = false → _
          generalize byteAt s (i : Int) = b
          simp only [Bool.cond_false_right, Bool.and_eq_false_iff, Bool.not_eq_false', Bool.and_eq_true, decide_eq_true_eq, beq_iff_eq, Bool.or_eq_true]
          omega
        rw [this, Bool.true_and]
      show (T28 s (i + 1)).All Q
      have hT : (T28 s i).All Q := hT
      unfold T28 at hT ⊢
      rw [← this]
      exact hT
    · have h1 : s.size ≤ i := by simpa using h1
      exact hT.1 (okFrom_end h1)
noncomputable def g29 : Code := loopAt Try.f29 0
def S29 (s : ByteArray) (i : Nat) : St := ⟨slots 53 [(0, .str s), (3, .int .i64 (i : Int))], []⟩
def R29 (s : ByteArray) (i : Nat) : Tree :=
  (.ask (decide ((i : Int) < (s.size : Int)))
    (.ask (!(cond (cond (cond (cond (cond (cond (decide ((byteAt s (i : Int)) ≥ (97 : Int))) (decide ((byteAt s (i : Int)) ≤ (122 : Int))) false) true (cond (decide ((byteAt s (i : Int)) ≥ (48 : Int))) (decide ((byteAt s (i : Int)) ≤ (57 : Int))) false)) true ((byteAt s (i : Int)) == (45 : Int))) true ((byteAt s (i : Int)) == (46 : Int))) true ((byteAt s (i : Int)) == (35 : Int))) true ((byteAt s (i : Int)) == (47 : Int))))
      (.leaf .ret ⟨slots 53 [(2, .bool false)], []⟩)
      (.leaf .normal ⟨slots 53 [(0, .str s), (3, .int .i64 (IntKind.i64.wrap ((i : Int) + (1 : Int))))], []⟩))
    (.leaf (.exit 0) ⟨slots 53 [(0, .str s)], []⟩))
def T29 (s : ByteArray) (i : Nat) : Tree := .ask (okFrom s i) (.leaf (.exit 0) ⟨slots 53 [(0, .str s)], []⟩) (.leaf .ret ⟨slots 53 [(2, .bool false)], []⟩)
theorem loop29 (s : ByteArray) (hs : s.size < 9223372036854775807) (i : { i : Nat // i ≤ s.size }) (Q : Exit → St → Prop) (h : (T29 s i.1).All Q) : Tr Try.prog 0 (.loop g29) (S29 s i.1) Q := by
  refine Tr_loopT (kok _ _ _ _) (E := E0) 40 0 (fun _ => noLoops) (fun i : { i : Nat // i ≤ s.size } => S29 s i.1) (fun i => T29 s i.1) (fun i => R29 s i.1) (fun i => s.size - i.1) (fun _ => .none) (fun i => by obtain ⟨i, hi⟩ := i; kernel_rfl) (fun i => by obtain ⟨i, hi⟩ := i; kernel_rfl) ?_ (fun i => by obtain ⟨i, hi⟩ := i; kernel_rfl) ?_ i Q h
  · rintro ⟨i, hi⟩ o ho hw
    rw [show obl (evCode E0 noLoops 40 0 g29 (S29 s i)) = [([(decide ((i : Int) < (s.size : Int)), true)], 0 ≤ (i : Int) ∧ (i : Int) < (s.size : Int))] from by kernel_rfl] at ho
    simp only [List.mem_singleton] at ho
    subst ho
    have hw := hw.1
    rw [decide_eq_true_eq] at hw
    exact ⟨by omega, hw⟩
  · rintro ⟨i, hi⟩ Q hT
    refine ⟨fun h1 => ⟨fun h2 => ?_, fun h2 => ?_⟩, fun h1 => ?_⟩
    · have h1 : i < s.size := by simpa using h1
      refine hT.2 ?_
      show okFrom s i = false
      rw [okFrom_step h1]
      revert h2
      unfold okByte
      show (!(cond (cond (cond (cond (cond (cond (decide ((byteAt s (i : Int)) ≥ (97 : Int))) (decide ((byteAt s (i : Int)) ≤ (122 : Int))) false) true (cond (decide ((byteAt s (i : Int)) ≥ (48 : Int))) (decide ((byteAt s (i : Int)) ≤ (57 : Int))) false)) true ((byteAt s (i : Int)) == (45 : Int))) true ((byteAt s (i : Int)) == (46 : Int))) true ((byteAt s (i : Int)) == (35 : Int))) true ((byteAt s (i : Int)) == (47 : Int)))) = true → _
      generalize byteAt s (i : Int) = b
      intro h2
      rw [Bool.and_eq_false_iff]
      left
      rw [Bool.not_eq_true'] at h2
      rw [← h2]
      rw [Bool.eq_iff_iff]
      simp only [Bool.cond_true_left, Bool.cond_false_right, Bool.or_eq_true, Bool.and_eq_true, decide_eq_true_eq, beq_iff_eq, ge_iff_le]
    · have h1 : i < s.size := by simpa using h1
      refine ⟨⟨i + 1, by omega⟩, by show s.size - (i + 1) < s.size - i; omega, by show _ = S29 s (i + 1); unfold S29; rw [← wrap_succ (by omega)], ?_⟩
      have : okFrom s i = okFrom s (i + 1) := by
        rw [okFrom_step h1]
        have : okByte (byteAt s (i : Int)) = true := by
          revert h2
          unfold okByte
          show (!(cond (cond (cond (cond (cond (cond (decide ((byteAt s (i : Int)) ≥ (97 : Int))) (decide ((byteAt s (i : Int)) ≤ (122 : Int))) false) true (cond (decide ((byteAt s (i : Int)) ≥ (48 : Int))) (decide ((byteAt s (i : Int)) ≤ (57 : Int))) false)) true ((byteAt s (i : Int)) == (45 : Int))) true ((byteAt s (i : Int)) == (46 : Int))) true ((byteAt s (i : Int)) == (35 : Int))) true ((byteAt s (i : Int)) == (47 : Int)))) = false → _
          generalize byteAt s (i : Int) = b
          simp only [Bool.cond_true_left, Bool.cond_false_right, Bool.not_eq_false', Bool.and_eq_true, decide_eq_true_eq, beq_iff_eq, Bool.or_eq_true, ge_iff_le]
          exact id
        rw [this, Bool.true_and]
      show (T29 s (i + 1)).All Q
      have hT : (T29 s i).All Q := hT
      unfold T29 at hT ⊢
      rw [← this]
      exact hT
    · have h1 : s.size ≤ i := by simpa using h1
      exact hT.1 (okFrom_end h1)
end Go.Proofs.Ytofimhodpemmiaa
