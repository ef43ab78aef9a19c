/- Leases: the loop of LeaseTerms. -/
import Derived.Test.YtofimhodpemmiaaSame
set_option maxRecDepth 100000
namespace Go.Proofs.Ytofimhodpemmiaa
open Go Go.Eng

noncomputable def E11 : Env := envOf [name_fact, rname_fact, mine_fact, rmine_fact, ref_fact, rel_fact, rrel_fact, rtry_fact, try_fact, live_fact, newg_fact, rnewg_fact, checkn_fact, check_fact, rcheck_fact, termn_fact, term_fact, forkn_fact, fork_fact] [must_fact] [] fun _ => none
def termsS (l : List XAsk) (lh : ByteArray) (lu : Int) (lt : Int) (now : Int) (i : Nat) : St :=
  ⟨slots 113 [(0, .coll (.asks l)), (3, .ptr 0 0), (4, .int .u64 now), (5, .int .i64 (i : Int))], [.cells 25 [.str lh, .int .u64 lu, .int .u64 lt]]⟩
def termsR (l : List XAsk) (lh : ByteArray) (lu : Int) (lt : Int) (now : Int) (i : Nat) : Tree :=
  (.ask (cond (decide ((i : Int) < (l.length : Int))) (decide ((i : Int) < (60 : Int))) false)
    (.ask (!(((tryF lh lu lt ((l.getD i default).who) (IntKind.u64.wrap (now + (((l.getD i default).now).tmod (16 : Int)))) (IntKind.u64.wrap ((((l.getD i default).span).tmod (20 : Int)) + (1 : Int)))).2.2.2) == (0 : Int)))
      (.ask (cond (((tryF lh lu lt ((l.getD i default).who) (IntKind.u64.wrap (now + (((l.getD i default).now).tmod (16 : Int)))) (IntKind.u64.wrap ((((l.getD i default).span).tmod (20 : Int)) + (1 : Int)))).2.2.2) == (8 : Int)) (cond (decide (lh = ((l.getD i default).who))) true (decide ((IntKind.u64.wrap (now + (((l.getD i default).now).tmod (16 : Int)))) ≥ lu))) false)
        (.leaf .ret ⟨slots 113 [(2, .bool false)], []⟩)
        (.leaf .normal ⟨slots 113 [(0, .coll (.asks l)), (3, .ptr 0 0), (4, .int .u64 (IntKind.u64.wrap (now + (((l.getD i default).now).tmod (16 : Int))))), (5, .int .i64 (IntKind.i64.wrap ((i : Int) + (1 : Int))))], [.cells 25 [.str lh, .int .u64 lu, .int .u64 lt]]⟩))
      (.ask (cond (cond (cond (mineF lh lu lt ((l.getD i default).who) (IntKind.u64.wrap (now + (((l.getD i default).now).tmod (16 : Int))))) (cond (!(((tryF lh lu lt ((l.getD i default).who) (IntKind.u64.wrap (now + (((l.getD i default).now).tmod (16 : Int)))) (IntKind.u64.wrap ((((l.getD i default).span).tmod (20 : Int)) + (1 : Int)))).2.2.1) == lt)) true (decide (((tryF lh lu lt ((l.getD i default).who) (IntKind.u64.wrap (now + (((l.getD i default).now).tmod (16 : Int)))) (IntKind.u64.wrap ((((l.getD i default).span).tmod (20 : Int)) + (1 : Int)))).2.1) < lu))) false) true (cond (!(mineF lh lu lt ((l.getD i default).who) (IntKind.u64.wrap (now + (((l.getD i default).now).tmod (16 : Int)))))) (!(((tryF lh lu lt ((l.getD i default).who) (IntKind.u64.wrap (now + (((l.getD i default).now).tmod (16 : Int)))) (IntKind.u64.wrap ((((l.getD i default).span).tmod (20 : Int)) + (1 : Int)))).2.2.1) == (IntKind.u64.wrap (lt + (1 : Int))))) false)) true (!(mineF ((tryF lh lu lt ((l.getD i default).who) (IntKind.u64.wrap (now + (((l.getD i default).now).tmod (16 : Int)))) (IntKind.u64.wrap ((((l.getD i default).span).tmod (20 : Int)) + (1 : Int)))).1) ((tryF lh lu lt ((l.getD i default).who) (IntKind.u64.wrap (now + (((l.getD i default).now).tmod (16 : Int)))) (IntKind.u64.wrap ((((l.getD i default).span).tmod (20 : Int)) + (1 : Int)))).2.1) ((tryF lh lu lt ((l.getD i default).who) (IntKind.u64.wrap (now + (((l.getD i default).now).tmod (16 : Int)))) (IntKind.u64.wrap ((((l.getD i default).span).tmod (20 : Int)) + (1 : Int)))).2.2.1) ((l.getD i default).who) (IntKind.u64.wrap (now + (((l.getD i default).now).tmod (16 : Int)))))))
        (.leaf .ret ⟨slots 113 [(2, .bool false)], []⟩)
        (.leaf .normal ⟨slots 113 [(0, .coll (.asks l)), (3, .ptr 0 0), (4, .int .u64 (IntKind.u64.wrap (now + (((l.getD i default).now).tmod (16 : Int))))), (5, .int .i64 (IntKind.i64.wrap ((i : Int) + (1 : Int))))], [.cells 25 [.str ((tryF lh lu lt ((l.getD i default).who) (IntKind.u64.wrap (now + (((l.getD i default).now).tmod (16 : Int)))) (IntKind.u64.wrap ((((l.getD i default).span).tmod (20 : Int)) + (1 : Int)))).1), .int .u64 ((tryF lh lu lt ((l.getD i default).who) (IntKind.u64.wrap (now + (((l.getD i default).now).tmod (16 : Int)))) (IntKind.u64.wrap ((((l.getD i default).span).tmod (20 : Int)) + (1 : Int)))).2.1), .int .u64 ((tryF lh lu lt ((l.getD i default).who) (IntKind.u64.wrap (now + (((l.getD i default).now).tmod (16 : Int)))) (IntKind.u64.wrap ((((l.getD i default).span).tmod (20 : Int)) + (1 : Int)))).2.2.1)]]⟩)))
    (.leaf (.exit 0) ⟨slots 113 [], []⟩))
def termsT (_ : List XAsk) (_ : ByteArray) (_ _ _ : Int) (_ : Nat) : Tree := .leaf (.exit 0) ⟨slots 113 [], []⟩
theorem u64_nonneg (x : Int) : 0 ≤ IntKind.u64.wrap x := by
  simp [IntKind.wrap, IntKind.max, IntKind.min, IntKind.signed, IntKind.bits]
  omega
theorem terms_loop (l : List XAsk) (hlen : l.length < 9223372036854775807) (hask : ∀ i, i < l.length → (l.getD i default).who.size < 9223372036854775807) (z : { z : ByteArray × Int × Int × Int × Nat // let (lh, lu, lt, now, i) := z; 0 ≤ now ∧ i ≤ l.length }) (Q : Exit → St → Prop) (h : (termsT l z.1.1 z.1.2.1 z.1.2.2.1 z.1.2.2.2.1 z.1.2.2.2.2).All Q) : Tr Try.prog 0 (.loop (loopAt Try.f4 0)) (termsS l z.1.1 z.1.2.1 z.1.2.2.1 z.1.2.2.2.1 z.1.2.2.2.2) Q := by
  refine Tr_loopT (kok _ _ _ _) (E := E11) (ι := { z : ByteArray × Int × Int × Int × Nat // let (lh, lu, lt, now, i) := z; 0 ≤ now ∧ i ≤ l.length }) 60 0 (fun z => noLoops) (fun z => termsS l z.1.1 z.1.2.1 z.1.2.2.1 z.1.2.2.2.1 z.1.2.2.2.2) (fun z => termsT l z.1.1 z.1.2.1 z.1.2.2.1 z.1.2.2.2.1 z.1.2.2.2.2) (fun z => termsR l z.1.1 z.1.2.1 z.1.2.2.1 z.1.2.2.2.1 z.1.2.2.2.2) (fun z => l.length - (z.1.2.2.2.2)) (fun z => .none) (fun z => by obtain ⟨⟨lh, lu, lt, now, i⟩, hi⟩ := z; kernel_rfl) (fun z => by obtain ⟨⟨lh, lu, lt, now, i⟩, hi⟩ := z; kernel_rfl) ?_ (fun z => by obtain ⟨⟨lh, lu, lt, now, i⟩, hi⟩ := z; kernel_rfl) ?_ z Q h
  · rintro ⟨⟨lh, lu, lt, now, i⟩, hi⟩
    intro o ho hway
    rw [show obl (evCode E11 noLoops 60 0 (loopAt Try.f4 0) (termsS l lh lu lt now i)) = [([(cond (decide ((i : Int) < (l.length : Int))) (decide ((i : Int) < (60 : Int))) false, true)], 0 ≤ (i : Int) ∧ (i : Int) < (l.length : Int)), ([(cond (decide ((i : Int) < (l.length : Int))) (decide ((i : Int) < (60 : Int))) false, true)], (16 : Int) ≠ 0), ([(cond (decide ((i : Int) < (l.length : Int))) (decide ((i : Int) < (60 : Int))) false, true)], 0 ≤ (i : Int) ∧ (i : Int) < (l.length : Int)), ([(cond (decide ((i : Int) < (l.length : Int))) (decide ((i : Int) < (60 : Int))) false, true)], 0 ≤ (i : Int) ∧ (i : Int) < (l.length : Int)), ([(cond (decide ((i : Int) < (l.length : Int))) (decide ((i : Int) < (60 : Int))) false, true)], (20 : Int) ≠ 0), ([(cond (decide ((i : Int) < (l.length : Int))) (decide ((i : Int) < (60 : Int))) false, true)], ((l.getD i default).who).size < 9223372036854775807), ([(cond (decide ((i : Int) < (l.length : Int))) (decide ((i : Int) < (60 : Int))) false, true), (!(((tryF lh lu lt ((l.getD i default).who) (IntKind.u64.wrap (now + (((l.getD i default).now).tmod (16 : Int)))) (IntKind.u64.wrap ((((l.getD i default).span).tmod (20 : Int)) + (1 : Int)))).2.2.2) == (0 : Int)), true)], ((((tryF lh lu lt ((l.getD i default).who) (IntKind.u64.wrap (now + (((l.getD i default).now).tmod (16 : Int)))) (IntKind.u64.wrap ((((l.getD i default).span).tmod (20 : Int)) + (1 : Int)))).2.2.2) == (8 : Int)) = true) → 0 ≤ (i : Int) ∧ (i : Int) < (l.length : Int)), ([(cond (decide ((i : Int) < (l.length : Int))) (decide ((i : Int) < (60 : Int))) false, true), (!(((tryF lh lu lt ((l.getD i default).who) (IntKind.u64.wrap (now + (((l.getD i default).now).tmod (16 : Int)))) (IntKind.u64.wrap ((((l.getD i default).span).tmod (20 : Int)) + (1 : Int)))).2.2.2) == (0 : Int)), false)], 0 ≤ (i : Int) ∧ (i : Int) < (l.length : Int)), ([(cond (decide ((i : Int) < (l.length : Int))) (decide ((i : Int) < (60 : Int))) false, true), (!(((tryF lh lu lt ((l.getD i default).who) (IntKind.u64.wrap (now + (((l.getD i default).now).tmod (16 : Int)))) (IntKind.u64.wrap ((((l.getD i default).span).tmod (20 : Int)) + (1 : Int)))).2.2.2) == (0 : Int)), false)], ((cond (cond (mineF lh lu lt ((l.getD i default).who) (IntKind.u64.wrap (now + (((l.getD i default).now).tmod (16 : Int))))) (cond (!(((tryF lh lu lt ((l.getD i default).who) (IntKind.u64.wrap (now + (((l.getD i default).now).tmod (16 : Int)))) (IntKind.u64.wrap ((((l.getD i default).span).tmod (20 : Int)) + (1 : Int)))).2.2.1) == lt)) true (decide (((tryF lh lu lt ((l.getD i default).who) (IntKind.u64.wrap (now + (((l.getD i default).now).tmod (16 : Int)))) (IntKind.u64.wrap ((((l.getD i default).span).tmod (20 : Int)) + (1 : Int)))).2.1) < lu))) false) true (cond (!(mineF lh lu lt ((l.getD i default).who) (IntKind.u64.wrap (now + (((l.getD i default).now).tmod (16 : Int)))))) (!(((tryF lh lu lt ((l.getD i default).who) (IntKind.u64.wrap (now + (((l.getD i default).now).tmod (16 : Int)))) (IntKind.u64.wrap ((((l.getD i default).span).tmod (20 : Int)) + (1 : Int)))).2.2.1) == (IntKind.u64.wrap (lt + (1 : Int))))) false)) = false) → 0 ≤ (i : Int) ∧ (i : Int) < (l.length : Int))] from by kernel_rfl] at ho
    simp only [List.mem_cons, List.not_mem_nil, or_false] at ho
    rcases ho with rfl | rfl | rfl | rfl | rfl | rfl | rfl | rfl | rfl
    · have h := hway.1; simp only [Bool.cond_false_right, Bool.and_eq_true, decide_eq_true_eq] at h; first | exact ⟨by omega, h.1⟩ | exact fun _ => ⟨by omega, h.1⟩ | (show (_ : Int) ≠ 0; decide) | exact fun _ => hask _ (by omega) | exact hask _ (by omega)
    · have h := hway.1; simp only [Bool.cond_false_right, Bool.and_eq_true, decide_eq_true_eq] at h; first | exact ⟨by omega, h.1⟩ | exact fun _ => ⟨by omega, h.1⟩ | (show (_ : Int) ≠ 0; decide) | exact fun _ => hask _ (by omega) | exact hask _ (by omega)
    · have h := hway.1; simp only [Bool.cond_false_right, Bool.and_eq_true, decide_eq_true_eq] at h; first | exact ⟨by omega, h.1⟩ | exact fun _ => ⟨by omega, h.1⟩ | (show (_ : Int) ≠ 0; decide) | exact fun _ => hask _ (by omega) | exact hask _ (by omega)
    · have h := hway.1; simp only [Bool.cond_false_right, Bool.and_eq_true, decide_eq_true_eq] at h; first | exact ⟨by omega, h.1⟩ | exact fun _ => ⟨by omega, h.1⟩ | (show (_ : Int) ≠ 0; decide) | exact fun _ => hask _ (by omega) | exact hask _ (by omega)
    · have h := hway.1; simp only [Bool.cond_false_right, Bool.and_eq_true, decide_eq_true_eq] at h; first | exact ⟨by omega, h.1⟩ | exact fun _ => ⟨by omega, h.1⟩ | (show (_ : Int) ≠ 0; decide) | exact fun _ => hask _ (by omega) | exact hask _ (by omega)
    · have h := hway.1; simp only [Bool.cond_false_right, Bool.and_eq_true, decide_eq_true_eq] at h; first | exact ⟨by omega, h.1⟩ | exact fun _ => ⟨by omega, h.1⟩ | (show (_ : Int) ≠ 0; decide) | exact fun _ => hask _ (by omega) | exact hask _ (by omega)
    · have h := hway.1; simp only [Bool.cond_false_right, Bool.and_eq_true, decide_eq_true_eq] at h; first | exact ⟨by omega, h.1⟩ | exact fun _ => ⟨by omega, h.1⟩ | (show (_ : Int) ≠ 0; decide) | exact fun _ => hask _ (by omega) | exact hask _ (by omega)
    · have h := hway.1; simp only [Bool.cond_false_right, Bool.and_eq_true, decide_eq_true_eq] at h; first | exact ⟨by omega, h.1⟩ | exact fun _ => ⟨by omega, h.1⟩ | (show (_ : Int) ≠ 0; decide) | exact fun _ => hask _ (by omega) | exact hask _ (by omega)
    · have h := hway.1; simp only [Bool.cond_false_right, Bool.and_eq_true, decide_eq_true_eq] at h; first | exact ⟨by omega, h.1⟩ | exact fun _ => ⟨by omega, h.1⟩ | (show (_ : Int) ≠ 0; decide) | exact fun _ => hask _ (by omega) | exact hask _ (by omega)
  · rintro ⟨⟨lh, lu, lt, now, i⟩, hi⟩ Q hT
    replace hT : (termsT l lh lu lt now i).All Q := hT
    show (termsR l lh lu lt now i).All _
    obtain ⟨hnow, hle⟩ : 0 ≤ now ∧ i ≤ l.length := hi
    unfold termsR
    have n0 := u64_nonneg (now + (((l.getD i default).now).tmod (16 : Int)))
    generalize (l.getD i default).who = w
    generalize IntKind.u64.wrap (now + (((l.getD i default).now).tmod (16 : Int))) = n at n0
    generalize IntKind.u64.wrap ((((l.getD i default).span).tmod (20 : Int)) + (1 : Int)) = p
    have next : ∀ (a : ByteArray) (b c : Int), (cond (decide ((i : Int) < (l.length : Int))) (decide ((i : Int) < (60 : Int))) false) = true → ∃ j : { z : ByteArray × Int × Int × Int × Nat // let (lh, lu, lt, now, i) := z; 0 ≤ now ∧ i ≤ l.length }, l.length - j.1.2.2.2.2 < l.length - i ∧
        (⟨slots 113 [(0, .coll (.asks l)), (3, .ptr 0 0), (4, .int .u64 n), (5, .int .i64 (IntKind.i64.wrap ((i : Int) + (1 : Int))))], [.cells 25 [.str a, .int .u64 b, .int .u64 c]]⟩ : St) = termsS l j.1.1 j.1.2.1 j.1.2.2.1 j.1.2.2.2.1 j.1.2.2.2.2 ∧ (termsT l j.1.1 j.1.2.1 j.1.2.2.1 j.1.2.2.2.1 j.1.2.2.2.2).All Q := by
      intro a b c h1
      simp only [Bool.cond_false_right, Bool.and_eq_true, decide_eq_true_eq] at h1
      refine ⟨⟨(a, b, c, n, i + 1), show 0 ≤ n ∧ i + 1 ≤ l.length from ⟨n0, by omega⟩⟩, show l.length - (i + 1) < l.length - i by omega, ?_, hT⟩
      show _ = termsS l a b c n (i + 1)
      unfold termsS
      rw [← wrap_succ (i := i) (by have := hlen; omega)]
    refine ⟨fun h1 => ⟨fun h2 => ⟨fun h3 => ?_, fun h3 => ?_⟩, fun h2 => ⟨fun h3 => ?_, fun h3 => ?_⟩⟩, fun h1 => hT⟩
    · exfalso
      have h2 : (tryF lh lu lt w n p).2.2.2 ≠ 0 := by simpa using h2
      obtain ⟨k, hk, h8⟩ := try_no h2
      rw [hk] at h3
      by_cases hk8 : k = 8
      · obtain ⟨_, a2, a3⟩ := h8 hk8
        have : ¬ n ≥ lu := by omega
        simp [hk8, a3, this] at h3
      · simp [hk8] at h3
    · exact next _ _ _ h1
    · exfalso
      have h2 : (tryF lh lu lt w n p).2.2.2 = 0 := by simpa using h2
      obtain ⟨hnm, p1, p2, p3, hc⟩ := try_ok h2
      have hne := nameF_ne hnm
      have hw' := wrap_u64 (n := n + p) (by omega) (by omega)
      rcases hc with ⟨ha, hX⟩ | ⟨⟨ha, hb⟩, hl, hX⟩
      · have hm : mineF lh lu lt w n = false := by
          unfold mineF
          rcases ha with ha | ha
          · simp [ha]
          · have : ¬ lu > n := by omega
            simp [this]
        have hy : mineF w (n + p) (IntKind.u64.wrap (lt + 1)) w n = true := by
          unfold mineF
          have : n + p > n := by omega
          simp [hne, this]
        rw [hX, hm, hw'] at h3
        simp [hy] at h3
      · subst hl
        have hm : mineF lh lu lt lh n = true := by
          unfold mineF
          have : lu > n := by omega
          simp [ha, this]
        rw [hX, hw', hm] at h3
        have hge : (if n + p > lu then n + p else lu) ≥ lu := by split <;> omega
        generalize (if n + p > lu then n + p else lu) = z at hge h3
        have hy : mineF lh z lt lh n = true := by
          unfold mineF
          have : z > n := by omega
          simp [ha, this]
        have : ¬ z < lu := by omega
        simp [hy, this] at h3
    · exact next _ _ _ h1

end Go.Proofs.Ytofimhodpemmiaa
