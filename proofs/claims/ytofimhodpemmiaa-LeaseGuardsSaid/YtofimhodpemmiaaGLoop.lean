/- Leases: the loop of LeaseGuards. -/
import Derived.Test.YtofimhodpemmiaaSame
set_option maxRecDepth 100000
namespace Go.Proofs.Ytofimhodpemmiaa
open Go Go.Eng

noncomputable def E9 : Env := envOf [name_fact, rname_fact, mine_fact, rmine_fact, ref_fact, rel_fact, rrel_fact, rtry_fact, try_fact, live_fact, newg_fact, rnewg_fact, checkn_fact, check_fact, rcheck_fact, termn_fact, term_fact, forkn_fact, fork_fact] [must_fact] [] fun _ => none
def grdS (l : List Int) (m : Int) (i : Nat) : St :=
  ⟨slots 79 [(0, .coll (.ints .u64 l)), (3, .ptr 0 0), (4, .ptr 1 0), (5, .int .u64 m), (6, .int .i64 (i : Int))], [.cells 60 [.int .u64 m], .cells 62 [.int .u64 m]]⟩
def grdR (l : List Int) (m : Int) (i : Nat) : Tree :=
  (.ask (cond (decide ((i : Int) < (l.length : Int))) (decide ((i : Int) < (100 : Int))) false)
    (.ask (cond (!(((checkF m (l.getD i default)).1) == ((rcheckF m (l.getD i default)).1))) true (!((((checkF m (l.getD i default)).1) == (0 : Int)) == (decide ((l.getD i default) ≥ m)))))
      (.leaf .ret ⟨slots 79 [(2, .bool false)], []⟩)
      (.ask (decide ((l.getD i default) > m))
        (.ask (!(((termF ((checkF m (l.getD i default)).2)).1) == (l.getD i default)))
          (.leaf .ret ⟨slots 79 [(2, .bool false)], []⟩)
          (.leaf .normal ⟨slots 79 [(0, .coll (.ints .u64 l)), (3, .ptr 0 0), (4, .ptr 1 0), (5, .int .u64 (l.getD i default)), (6, .int .i64 (IntKind.i64.wrap ((i : Int) + (1 : Int))))], [.cells 60 [.int .u64 ((checkF m (l.getD i default)).2)], .cells 62 [.int .u64 ((rcheckF m (l.getD i default)).2)]]⟩))
        (.ask (!(((termF ((checkF m (l.getD i default)).2)).1) == m))
          (.leaf .ret ⟨slots 79 [(2, .bool false)], []⟩)
          (.leaf .normal ⟨slots 79 [(0, .coll (.ints .u64 l)), (3, .ptr 0 0), (4, .ptr 1 0), (5, .int .u64 m), (6, .int .i64 (IntKind.i64.wrap ((i : Int) + (1 : Int))))], [.cells 60 [.int .u64 ((checkF m (l.getD i default)).2)], .cells 62 [.int .u64 ((rcheckF m (l.getD i default)).2)]]⟩))))
    (.leaf (.exit 0) ⟨slots 79 [(3, .ptr 0 0), (5, .int .u64 m)], [.cells 60 [.int .u64 m]]⟩))
/-- The greatest of m and what comes from i on. -/
def lastF (l : List Int) (m : Int) (i : Nat) : Int := ((l.take 100).drop i).foldl (fun m x => if x > m then x else m) m
theorem last_step {l : List Int} {m : Int} {i : Nat} (h : i < l.length) (h1 : i < 100) : lastF l m i = lastF l (if l.getD i default > m then l.getD i default else m) (i + 1) := by
  have hl : i < (l.take 100).length := by simp; omega
  unfold lastF
  rw [List.drop_eq_getElem_cons hl, List.foldl_cons]
  simp [List.getD_eq_getElem?_getD, List.getElem?_eq_getElem h]
theorem last_end {l : List Int} {m : Int} {i : Nat} (h : l.length ≤ i ∨ 100 ≤ i) : lastF l m i = m := by
  unfold lastF
  rw [List.drop_eq_nil_of_le (by simp; omega)]
  rfl
def grdT (l : List Int) (m : Int) (i : Nat) : Tree := .leaf (.exit 0) ⟨slots 79 [(3, .ptr 0 0), (5, .int .u64 (lastF l m i))], [.cells 60 [.int .u64 (lastF l m i)]]⟩
theorem grd_loop (l : List Int) (hlen : l.length < 9223372036854775807) (z : { z : Int × Nat // let (m, i) := z; i ≤ l.length }) (Q : Exit → St → Prop) (h : (grdT l z.1.1 z.1.2).All Q) : Tr Try.prog 0 (.loop (loopAt Try.f8 0)) (grdS l z.1.1 z.1.2) Q := by
  refine Tr_loopT (kok _ _ _ _) (E := E9) (ι := { z : Int × Nat // let (m, i) := z; i ≤ l.length }) 60 0 (fun _ => noLoops) (fun z => grdS l z.1.1 z.1.2) (fun z => grdT l z.1.1 z.1.2) (fun z => grdR l z.1.1 z.1.2) (fun z => l.length - z.1.2) (fun _ => .none) (fun z => by obtain ⟨⟨m, i⟩, hi⟩ := z; kernel_rfl) (fun z => by obtain ⟨⟨m, i⟩, hi⟩ := z; kernel_rfl) ?_ (fun z => by obtain ⟨⟨m, i⟩, hi⟩ := z; kernel_rfl) ?_ z Q h
  · rintro ⟨⟨m, i⟩, hi⟩
    intro o ho hway
    rw [show obl (evCode E9 noLoops 60 0 (loopAt Try.f8 0) (grdS l m i)) = [([(cond (decide ((i : Int) < (l.length : Int))) (decide ((i : Int) < (100 : Int))) false, true)], 0 ≤ (i : Int) ∧ (i : Int) < (l.length : Int)), ([(cond (decide ((i : Int) < (l.length : Int))) (decide ((i : Int) < (100 : Int))) false, true)], 0 ≤ (i : Int) ∧ (i : Int) < (l.length : Int)), ([(cond (decide ((i : Int) < (l.length : Int))) (decide ((i : Int) < (100 : Int))) false, true)], ((!(((checkF m (l.getD i default)).1) == ((rcheckF m (l.getD i default)).1))) = false) → 0 ≤ (i : Int) ∧ (i : Int) < (l.length : Int)), ([(cond (decide ((i : Int) < (l.length : Int))) (decide ((i : Int) < (100 : Int))) false, true), (cond (!(((checkF m (l.getD i default)).1) == ((rcheckF m (l.getD i default)).1))) true (!((((checkF m (l.getD i default)).1) == (0 : Int)) == (decide ((l.getD i default) ≥ m)))), false)], 0 ≤ (i : Int) ∧ (i : Int) < (l.length : Int)), ([(cond (decide ((i : Int) < (l.length : Int))) (decide ((i : Int) < (100 : Int))) false, true), (cond (!(((checkF m (l.getD i default)).1) == ((rcheckF m (l.getD i default)).1))) true (!((((checkF m (l.getD i default)).1) == (0 : Int)) == (decide ((l.getD i default) ≥ m)))), false), (decide ((l.getD i default) > m), true)], 0 ≤ (i : Int) ∧ (i : Int) < (l.length : Int))] from by kernel_rfl] at ho
    simp only [List.mem_cons, List.not_mem_nil, or_false] at ho
    rcases ho with rfl | rfl | rfl | rfl | rfl
    · have h := hway.1; simp only [Bool.cond_false_right, Bool.and_eq_true, decide_eq_true_eq] at h; first | exact ⟨by omega, h.1⟩ | exact fun _ => ⟨by omega, h.1⟩
    · have h := hway.1; simp only [Bool.cond_false_right, Bool.and_eq_true, decide_eq_true_eq] at h; first | exact ⟨by omega, h.1⟩ | exact fun _ => ⟨by omega, h.1⟩
    · have h := hway.1; simp only [Bool.cond_false_right, Bool.and_eq_true, decide_eq_true_eq] at h; first | exact ⟨by omega, h.1⟩ | exact fun _ => ⟨by omega, h.1⟩
    · have h := hway.1; simp only [Bool.cond_false_right, Bool.and_eq_true, decide_eq_true_eq] at h; first | exact ⟨by omega, h.1⟩ | exact fun _ => ⟨by omega, h.1⟩
    · have h := hway.1; simp only [Bool.cond_false_right, Bool.and_eq_true, decide_eq_true_eq] at h; first | exact ⟨by omega, h.1⟩ | exact fun _ => ⟨by omega, h.1⟩
  · rintro ⟨⟨m, i⟩, hi⟩ Q hT
    replace hT : (grdT l m i).All Q := hT
    show (grdR l m i).All _
    have hle : i ≤ l.length := hi
    have key : ∀ x : Int, (checkF m x) = (if x ≥ m then (0, x) else (9, m)) ∧ (rcheckF m x) = (if x ≥ m then (0, x) else (9, m)) := by
      intro x
      unfold checkF rcheckF
      by_cases h : x ≥ m
      · have h2 : ¬ m > x := by omega
        have h3 : ¬ x < m := by omega
        simp [h, h2, h3]
      · have h2 : m > x := by omega
        have h3 : x < m := by omega
        simp [h, h2, h3]
    unfold grdR
    generalize hx : l.getD i default = x
    obtain ⟨k1, k2⟩ := key x
    refine ⟨fun h1 => ⟨fun h2 => ?_, fun h2 => ⟨fun h3 => ⟨fun h4 => ?_, fun h4 => ?_⟩, fun h3 => ⟨fun h4 => ?_, fun h4 => ?_⟩⟩⟩, fun h1 => ?_⟩
    · exfalso
      rw [k1, k2] at h2
      by_cases h : x ≥ m
      · simp [h] at h2
      · simp [h] at h2
    · exfalso
      rw [decide_eq_true_eq] at h3
      have : x ≥ m := by omega
      rw [k1, if_pos this] at h4
      simp [termF] at h4
    · simp only [Bool.cond_false_right, Bool.and_eq_true, decide_eq_true_eq] at h1
      rw [decide_eq_true_eq] at h3
      have h5 : x ≥ m := by omega
      refine ⟨⟨(x, i + 1), show i + 1 ≤ l.length by omega⟩, show l.length - (i + 1) < l.length - i by omega, ?_, ?_⟩
      · show _ = grdS l x (i + 1)
        unfold grdS
        rw [k1, k2, if_pos h5, ← wrap_succ (i := i) (by have := hlen; omega)]
      · show (grdT l x (i + 1)).All Q
        unfold grdT at hT ⊢
        rw [last_step (by omega) (by omega), hx, if_pos h3] at hT
        exact hT
    · exfalso
      rw [decide_eq_false_iff_not] at h3
      by_cases h : x ≥ m
      · have : x = m := by omega
        rw [k1, if_pos h] at h4
        simp [termF, this] at h4
      · rw [k1, if_neg h] at h4
        simp [termF] at h4
    · simp only [Bool.cond_false_right, Bool.and_eq_true, decide_eq_true_eq] at h1
      rw [decide_eq_false_iff_not] at h3
      have h6 : (if x ≥ m then ((0 : Int), x) else (9, m)).2 = m := by
        split
        · show x = m
          omega
        · rfl
      refine ⟨⟨(m, i + 1), show i + 1 ≤ l.length by omega⟩, show l.length - (i + 1) < l.length - i by omega, ?_, ?_⟩
      · show _ = grdS l m (i + 1)
        unfold grdS
        rw [k1, k2, h6, ← wrap_succ (i := i) (by have := hlen; omega)]
      · show (grdT l m (i + 1)).All Q
        unfold grdT at hT ⊢
        rw [last_step (by omega) (by omega), hx, if_neg h3] at hT
        exact hT
    · have h1 : l.length ≤ i ∨ 100 ≤ i := by
        simp only [Bool.cond_false_right, Bool.and_eq_false_iff, decide_eq_false_iff_not] at h1
        omega
      unfold grdT at hT
      rw [last_end h1] at hT
      exact hT

end Go.Proofs.Ytofimhodpemmiaa
