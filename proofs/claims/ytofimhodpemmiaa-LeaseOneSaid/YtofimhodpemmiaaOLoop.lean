/- Leases: the loops of LeaseOne. -/
import Derived.Test.YtofimhodpemmiaaTLoop
set_option maxRecDepth 100000
namespace Go.Proofs.Ytofimhodpemmiaa
open Go Go.Eng

/-- Of the asks from j up to k none is of the asker of ask k. -/
def diffFrom (l : List XAsk) (k j : Nat) : Bool := ((l.take k).drop j).all fun a => !(decide (a.who = (l.getD k default).who))
theorem diff_step {l : List XAsk} {k j : Nat} (h : j < k) (hk : k < l.length) : diffFrom l k j = ((!(decide ((l.getD j default).who = (l.getD k default).who))) && diffFrom l k (j + 1)) := by
  have hl : j < (l.take k).length := by simp; omega
  unfold diffFrom
  rw [List.drop_eq_getElem_cons hl, List.all_cons]
  simp [List.getD_eq_getElem?_getD, List.getElem?_eq_getElem (show j < l.length by omega)]
theorem diff_end {l : List XAsk} {k j : Nat} (h : k ≤ j) : diffFrom l k j = true := by
  unfold diffFrom
  rw [List.drop_eq_nil_of_le (by simp; omega)]
  rfl
theorem diff_ne {l : List XAsk} {k j i : Nat} (h : diffFrom l k i = true) (hi : i ≤ j) (hj : j < k) (hk : k < l.length) : (l.getD j default).who ≠ (l.getD k default).who := by
  have hm : l.getD j default ∈ (l.take k).drop i := by
    rw [List.mem_iff_getElem]
    refine ⟨j - i, by simp; omega, ?_⟩
    simp [List.getD_eq_getElem?_getD, List.getElem?_eq_getElem (show j < l.length by omega), show i + (j - i) = j by omega]
  have := List.all_eq_true.1 h _ hm
  simpa using this
def oneF (l : List XAsk) (lh : ByteArray) (lu lt now : Int) (k : Nat) : Bool := diffFrom l k 0 && mineF lh lu lt (l.getD k default).who now
/-- How many have it, from k on. -/
def cntF (l : List XAsk) (lh : ByteArray) (lu lt now : Int) (i k : Nat) : Nat := (((List.range (i + 1)).drop k).filter (oneF l lh lu lt now)).length
theorem cnt_step {l : List XAsk} {lh : ByteArray} {lu lt now : Int} {i k : Nat} (h : k ≤ i) : cntF l lh lu lt now i k = (if oneF l lh lu lt now k then 1 else 0) + cntF l lh lu lt now i (k + 1) := by
  have hl : k < (List.range (i + 1)).length := by simp; omega
  unfold cntF
  rw [List.drop_eq_getElem_cons hl, List.filter_cons]
  simp only [List.getElem_range]
  split <;> simp <;> omega
theorem cnt_end {l : List XAsk} {lh : ByteArray} {lu lt now : Int} {i k : Nat} (h : i < k) : cntF l lh lu lt now i k = 0 := by
  unfold cntF
  rw [List.drop_eq_nil_of_le (by simp; omega)]
  rfl
theorem mineF_eq {lh : ByteArray} {lu lt : Int} {w : ByteArray} {n : Int} (h : mineF lh lu lt w n = true) : lh = w := by
  unfold mineF at h
  simp only [Bool.cond_false_right, Bool.and_eq_true, decide_eq_true_eq] at h
  exact h.1.2
/-- It is never two's. -/
theorem cnt_le {l : List XAsk} {lh : ByteArray} {lu lt now : Int} {i : Nat} (hi : i < l.length) : cntF l lh lu lt now i 0 ≤ 1 := by
  unfold cntF
  rw [List.drop_zero]
  have key : ∀ k1 k2, k1 < k2 → k2 ≤ i → oneF l lh lu lt now k1 = true → oneF l lh lu lt now k2 = true → False := by
    intro k1 k2 h12 h2 o1 o2
    simp only [oneF, Bool.and_eq_true] at o1 o2
    exact diff_ne o2.1 (Nat.zero_le _) h12 (by omega) ((mineF_eq o1.2).symm.trans (mineF_eq o2.2))
  generalize hf : (List.range (i + 1)).filter (oneF l lh lu lt now) = r
  have hnd : r.Nodup := by rw [← hf]; exact List.nodup_range.filter _
  have hmem : ∀ k ∈ r, k ≤ i ∧ oneF l lh lu lt now k = true := by
    intro k hk
    rw [← hf] at hk
    obtain ⟨h1, h2⟩ := List.mem_filter.1 hk
    exact ⟨by have := List.mem_range.1 h1; omega, h2⟩
  match r, hnd, hmem with
  | [], _, _ => simp
  | [_], _, _ => simp
  | a :: b :: r, hnd, hmem =>
    exfalso
    have hab : a ≠ b := by
      have := (List.nodup_cons.1 hnd).1
      intro h
      exact this (h ▸ List.mem_cons_self)
    obtain ⟨a1, a2⟩ := hmem a List.mem_cons_self
    obtain ⟨b1, b2⟩ := hmem b (List.mem_cons_of_mem _ List.mem_cons_self)
    rcases Nat.lt_or_gt_of_ne hab with h | h
    · exact key a b h b1 a2 b2
    · exact key b a h a1 b2 a2
def loopOf (c : Code) (bid k : Nat) : Code := ((loopsIn bid c)[k]?.map (·.2)).getD .skip
noncomputable def outC : Code := loopAt Try.f3 0
noncomputable def midC : Code := loopOf outC 0 0
noncomputable def inC : Code := loopOf midC 2 0
def inS (l : List XAsk) (lh : ByteArray) (lu : Int) (lt : Int) (now : Int) (i : Nat) (m : Nat) (k : Nat) (f : Bool) (j : Nat) : St :=
  ⟨slots 112 [(0, .coll (.asks l)), (3, .ptr 0 0), (4, .int .u64 now), (5, .int .i64 (i : Int)), (9, .int .i64 (m : Int)), (10, .int .i64 (k : Int)), (11, .bool f), (12, .int .i64 (j : Int))], [.cells 25 [.str lh, .int .u64 lu, .int .u64 lt]]⟩
def inR (l : List XAsk) (lh : ByteArray) (lu : Int) (lt : Int) (now : Int) (i : Nat) (m : Nat) (k : Nat) (f : Bool) (j : Nat) : Tree :=
  (.ask (decide ((j : Int) < (k : Int)))
    (.leaf .normal ⟨slots 112 [(0, .coll (.asks l)), (3, .ptr 0 0), (4, .int .u64 now), (5, .int .i64 (i : Int)), (9, .int .i64 (m : Int)), (10, .int .i64 (k : Int)), (11, .bool (cond f (!(decide (((l.getD j default).who) = ((l.getD k default).who)))) false)), (12, .int .i64 (IntKind.i64.wrap ((j : Int) + (1 : Int))))], [.cells 25 [.str lh, .int .u64 lu, .int .u64 lt]]⟩)
    (.leaf (.exit 4) ⟨slots 112 [(0, .coll (.asks l)), (3, .ptr 0 0), (4, .int .u64 now), (5, .int .i64 (i : Int)), (9, .int .i64 (m : Int)), (10, .int .i64 (k : Int)), (11, .bool f)], [.cells 25 [.str lh, .int .u64 lu, .int .u64 lt]]⟩))
def inT (l : List XAsk) (lh : ByteArray) (lu : Int) (lt : Int) (now : Int) (i : Nat) (m : Nat) (k : Nat) (f : Bool) (j : Nat) : Tree :=
  .leaf (.exit 4) ⟨slots 112 [(0, .coll (.asks l)), (3, .ptr 0 0), (4, .int .u64 now), (5, .int .i64 (i : Int)), (9, .int .i64 (m : Int)), (10, .int .i64 (k : Int)), (11, .bool (f && diffFrom l k j))], [.cells 25 [.str lh, .int .u64 lu, .int .u64 lt]]⟩
theorem in_loop (l : List XAsk) (lh : ByteArray) (lu : Int) (lt : Int) (now : Int) (i : Nat) (m : Nat) (k : Nat) (hlen : l.length < 9223372036854775807) (hk : k < l.length) (z : { z : Bool × Nat // let (f, j) := z; j ≤ k }) (Q : Exit → St → Prop) (h : (inT l lh lu lt now i m k z.1.1 z.1.2).All Q) : Tr Try.prog 0 (.loop inC) (inS l lh lu lt now i m k z.1.1 z.1.2) Q := by
  refine Tr_loopT (kok _ _ _ _) (E := E11) (ι := { z : Bool × Nat // let (f, j) := z; j ≤ k }) 60 4 (fun z => noLoops) (fun z => inS l lh lu lt now i m k z.1.1 z.1.2) (fun z => inT l lh lu lt now i m k z.1.1 z.1.2) (fun z => inR l lh lu lt now i m k z.1.1 z.1.2) (fun z => k - (z.1.2)) (fun z => .none) (fun z => by obtain ⟨⟨f, j⟩, hi⟩ := z; kernel_rfl) (fun z => by obtain ⟨⟨f, j⟩, hi⟩ := z; kernel_rfl) ?_ (fun z => by obtain ⟨⟨f, j⟩, hi⟩ := z; kernel_rfl) ?_ z Q h
  · rintro ⟨⟨f, j⟩, hi⟩
    intro o ho hway
    rw [show obl (evCode E11 noLoops 60 4 inC (inS l lh lu lt now i m k f j)) = [([(decide ((j : Int) < (k : Int)), true)], (f = true) → 0 ≤ (j : Int) ∧ (j : Int) < (l.length : Int)), ([(decide ((j : Int) < (k : Int)), true)], (f = true) → 0 ≤ (k : Int) ∧ (k : Int) < (l.length : Int))] from by kernel_rfl] at ho
    simp only [List.mem_cons, List.not_mem_nil, or_false] at ho
    rcases ho with rfl | rfl
    · have h : (decide ((j : Int) < (k : Int))) = true := hway.1; rw [decide_eq_true_eq] at h; exact fun _ => ⟨by omega, by omega⟩
    · have h : (decide ((j : Int) < (k : Int))) = true := hway.1; rw [decide_eq_true_eq] at h; exact fun _ => ⟨by omega, by omega⟩
  · rintro ⟨⟨f, j⟩, hi⟩ Q hT
    replace hT : (inT l lh lu lt now i m k f j).All Q := hT
    show (inR l lh lu lt now i m k f j).All _
    have hj : j ≤ k := hi
    unfold inR
    refine ⟨fun h1 => ?_, fun h1 => ?_⟩
    · have h1 : j < k := by simpa using h1
      refine ⟨⟨(cond f (!(decide ((l.getD j default).who = (l.getD k default).who))) false, j + 1), show j + 1 ≤ k from h1⟩, show k - (j + 1) < k - j by omega, ?_, ?_⟩
      · show _ = inS l lh lu lt now i m k (cond f (!(decide ((l.getD j default).who = (l.getD k default).who))) false) (j + 1)
        unfold inS
        rw [← wrap_succ (i := j) (by have := hlen; omega)]
      · show (inT l lh lu lt now i m k (cond f (!(decide ((l.getD j default).who = (l.getD k default).who))) false) (j + 1)).All Q
        unfold inT at hT ⊢
        rw [diff_step h1 hk] at hT
        have : (cond f (!(decide ((l.getD j default).who = (l.getD k default).who))) false && diffFrom l k (j + 1)) = (f && (!(decide ((l.getD j default).who = (l.getD k default).who)) && diffFrom l k (j + 1))) := by cases f <;> simp
        rw [this]
        exact hT
    · have h1 : k ≤ j := by simpa using h1
      unfold inT at hT
      rw [diff_end h1, Bool.and_true] at hT
      exact hT
def midS (l : List XAsk) (lh : ByteArray) (lu : Int) (lt : Int) (now : Int) (i : Nat) (m : Nat) (k : Nat) : St :=
  ⟨slots 112 [(0, .coll (.asks l)), (3, .ptr 0 0), (4, .int .u64 now), (5, .int .i64 (i : Int)), (9, .int .i64 (m : Int)), (10, .int .i64 (k : Int))], [.cells 25 [.str lh, .int .u64 lu, .int .u64 lt]]⟩
def midR (l : List XAsk) (lh : ByteArray) (lu : Int) (lt : Int) (now : Int) (i : Nat) (m : Nat) (k : Nat) : Tree :=
  (.ask (decide ((k : Int) ≤ (i : Int)))
    (.ask (cond (true && diffFrom l k 0) (mineF lh lu lt ((l.getD k default).who) now) false)
      (.leaf .normal ⟨slots 112 [(0, .coll (.asks l)), (3, .ptr 0 0), (4, .int .u64 now), (5, .int .i64 (i : Int)), (9, .int .i64 (IntKind.i64.wrap ((m : Int) + (1 : Int)))), (10, .int .i64 (IntKind.i64.wrap ((k : Int) + (1 : Int))))], [.cells 25 [.str lh, .int .u64 lu, .int .u64 lt]]⟩)
      (.leaf .normal ⟨slots 112 [(0, .coll (.asks l)), (3, .ptr 0 0), (4, .int .u64 now), (5, .int .i64 (i : Int)), (9, .int .i64 (m : Int)), (10, .int .i64 (IntKind.i64.wrap ((k : Int) + (1 : Int))))], [.cells 25 [.str lh, .int .u64 lu, .int .u64 lt]]⟩))
    (.leaf (.exit 2) ⟨slots 112 [(0, .coll (.asks l)), (3, .ptr 0 0), (4, .int .u64 now), (5, .int .i64 (i : Int)), (9, .int .i64 (m : Int))], [.cells 25 [.str lh, .int .u64 lu, .int .u64 lt]]⟩))
def midT (l : List XAsk) (lh : ByteArray) (lu : Int) (lt : Int) (now : Int) (i : Nat) (m : Nat) (k : Nat) : Tree :=
  .leaf (.exit 2) ⟨slots 112 [(0, .coll (.asks l)), (3, .ptr 0 0), (4, .int .u64 now), (5, .int .i64 (i : Int)), (9, .int .i64 ((m + cntF l lh lu lt now i k : Nat) : Int))], [.cells 25 [.str lh, .int .u64 lu, .int .u64 lt]]⟩
theorem mid_lok (l : List XAsk) (lh : ByteArray) (lu : Int) (lt : Int) (now : Int) (i : Nat) (hlen : l.length < 9223372036854775807) (z : { z : Nat × Nat // let (m, k) := z; m ≤ k ∧ k ≤ i + 1 }) : LoopsOk Try.prog 0 (fun _ _ => some (inS l lh lu lt now i z.1.1 z.1.2 true 0, .need [z.1.2 < l.length] (inT l lh lu lt now i z.1.1 z.1.2 true 0))) 2 midC := by
  obtain ⟨⟨m, k⟩, h1, h2⟩ := z
  exact LoopsOk.one (g := inC) (b := 4) (by kernel_rfl) (by kernel_rfl) (Nat.zero_le _) fun Q h => in_loop l lh lu lt now i m k hlen (h.1 _ List.mem_cons_self) ⟨(true, 0), Nat.zero_le _⟩ Q h.2
theorem mid_loop (l : List XAsk) (lh : ByteArray) (lu : Int) (lt : Int) (now : Int) (i : Nat) (hlen : l.length < 9223372036854775807) (hil : i < l.length) (z : { z : Nat × Nat // let (m, k) := z; m ≤ k ∧ k ≤ i + 1 }) (Q : Exit → St → Prop) (h : (midT l lh lu lt now i z.1.1 z.1.2).All Q) : Tr Try.prog 0 (.loop midC) (midS l lh lu lt now i z.1.1 z.1.2) Q := by
  refine Tr_loopT (kok _ _ _ _) (E := E11) (ι := { z : Nat × Nat // let (m, k) := z; m ≤ k ∧ k ≤ i + 1 }) 60 2 (fun z => (fun _ _ => some (inS l lh lu lt now i (z.1.1) (z.1.2) true 0, .need [(z.1.2) < l.length] (inT l lh lu lt now i (z.1.1) (z.1.2) true 0)))) (fun z => midS l lh lu lt now i z.1.1 z.1.2) (fun z => midT l lh lu lt now i z.1.1 z.1.2) (fun z => midR l lh lu lt now i z.1.1 z.1.2) (fun z => i + 1 - (z.1.2)) (fun z => mid_lok l lh lu lt now i hlen z) (fun z => by obtain ⟨⟨m, k⟩, hi⟩ := z; kernel_rfl) (fun z => by obtain ⟨⟨m, k⟩, hi⟩ := z; kernel_rfl) ?_ (fun z => by obtain ⟨⟨m, k⟩, hi⟩ := z; kernel_rfl) ?_ z Q h
  · rintro ⟨⟨m, k⟩, hi⟩
    intro o ho hway
    rw [show obl (evCode E11 (fun _ _ => some (inS l lh lu lt now i m k true 0, .need [k < l.length] (inT l lh lu lt now i m k true 0))) 60 2 midC (midS l lh lu lt now i m k)) = [([(decide ((k : Int) ≤ (i : Int)), true)], k < l.length), ([(decide ((k : Int) ≤ (i : Int)), true)], ((true && diffFrom l k 0) = true) → 0 ≤ (k : Int) ∧ (k : Int) < (l.length : Int))] from by kernel_rfl] at ho
    simp only [List.mem_cons, List.not_mem_nil, or_false] at ho
    rcases ho with rfl | rfl
    · have h : (decide ((k : Int) ≤ (i : Int))) = true := hway.1; rw [decide_eq_true_eq] at h; first | exact fun _ => ⟨by omega, by omega⟩ | (show k < l.length; omega)
    · have h : (decide ((k : Int) ≤ (i : Int))) = true := hway.1; rw [decide_eq_true_eq] at h; first | exact fun _ => ⟨by omega, by omega⟩ | (show k < l.length; omega)
  · rintro ⟨⟨m, k⟩, hi⟩ Q hT
    replace hT : (midT l lh lu lt now i m k).All Q := hT
    show (midR l lh lu lt now i m k).All _
    obtain ⟨hm, hk⟩ : m ≤ k ∧ k ≤ i + 1 := hi
    unfold midR
    refine ⟨fun h1 => ⟨fun h2 => ?_, fun h2 => ?_⟩, fun h1 => ?_⟩
    · have h1 : k ≤ i := by simp at h1; omega
      have ho : oneF l lh lu lt now k = true := by
        rw [Bool.true_and, Bool.cond_false_right] at h2
        exact h2
      refine ⟨⟨(m + 1, k + 1), show m + 1 ≤ k + 1 ∧ k + 1 ≤ i + 1 by omega⟩, show i + 1 - (k + 1) < i + 1 - k by omega, ?_, ?_⟩
      · show _ = midS l lh lu lt now i (m + 1) (k + 1)
        unfold midS
        rw [← wrap_succ (i := k) (by have := hlen; omega), ← wrap_succ (i := m) (by have := hlen; omega)]
      · show (midT l lh lu lt now i (m + 1) (k + 1)).All Q
        unfold midT at hT ⊢
        rw [cnt_step h1, if_pos ho] at hT
        rw [show m + 1 + cntF l lh lu lt now i (k + 1) = m + (1 + cntF l lh lu lt now i (k + 1)) by omega]
        exact hT
    · have h1 : k ≤ i := by simp at h1; omega
      have ho : ¬ oneF l lh lu lt now k = true := by
        rw [Bool.true_and, Bool.cond_false_right] at h2
        unfold oneF
        rw [h2]
        simp
      refine ⟨⟨(m, k + 1), show m ≤ k + 1 ∧ k + 1 ≤ i + 1 by omega⟩, show i + 1 - (k + 1) < i + 1 - k by omega, ?_, ?_⟩
      · show _ = midS l lh lu lt now i m (k + 1)
        unfold midS
        rw [← wrap_succ (i := k) (by have := hlen; omega)]
      · show (midT l lh lu lt now i m (k + 1)).All Q
        unfold midT at hT ⊢
        rw [cnt_step h1, if_neg ho, Nat.zero_add] at hT
        exact hT
    · have h1 : i < k := by simp at h1; omega
      unfold midT at hT
      rw [cnt_end h1, Nat.add_zero] at hT
      exact hT
def outS (l : List XAsk) (lh : ByteArray) (lu : Int) (lt : Int) (now : Int) (i : Nat) : St :=
  ⟨slots 112 [(0, .coll (.asks l)), (3, .ptr 0 0), (4, .int .u64 now), (5, .int .i64 (i : Int))], [.cells 25 [.str lh, .int .u64 lu, .int .u64 lt]]⟩
def outR (l : List XAsk) (lh : ByteArray) (lu : Int) (lt : Int) (now : Int) (i : Nat) : Tree :=
  (.ask (cond (decide ((i : Int) < (l.length : Int))) (decide ((i : Int) < (60 : Int))) false)
    (.ask (((tryF lh lu lt ((l.getD i default).who) (IntKind.u64.wrap (now + (((l.getD i default).now).tmod (16 : Int)))) (IntKind.u64.wrap ((((l.getD i default).span).tmod (20 : Int)) + (1 : Int)))).2.2.2) == (0 : Int))
      (.ask (cond (cond (!(decide (lh = (⟨#[]⟩ : ByteArray)))) (!(decide (lh = ((l.getD i default).who)))) false) (decide ((IntKind.u64.wrap (now + (((l.getD i default).now).tmod (16 : Int)))) < lu)) false)
        (.leaf .ret ⟨slots 112 [(2, .bool false)], []⟩)
        (.ask (decide ((((0 : Nat) + cntF l ((tryF lh lu lt ((l.getD i default).who) (IntKind.u64.wrap (now + (((l.getD i default).now).tmod (16 : Int)))) (IntKind.u64.wrap ((((l.getD i default).span).tmod (20 : Int)) + (1 : Int)))).1) ((tryF lh lu lt ((l.getD i default).who) (IntKind.u64.wrap (now + (((l.getD i default).now).tmod (16 : Int)))) (IntKind.u64.wrap ((((l.getD i default).span).tmod (20 : Int)) + (1 : Int)))).2.1) ((tryF lh lu lt ((l.getD i default).who) (IntKind.u64.wrap (now + (((l.getD i default).now).tmod (16 : Int)))) (IntKind.u64.wrap ((((l.getD i default).span).tmod (20 : Int)) + (1 : Int)))).2.2.1) (IntKind.u64.wrap (now + (((l.getD i default).now).tmod (16 : Int)))) i 0 : Nat) : Int) > (1 : Int)))
          (.leaf .ret ⟨slots 112 [(2, .bool false)], []⟩)
          (.leaf .normal ⟨slots 112 [(0, .coll (.asks l)), (3, .ptr 0 0), (4, .int .u64 (IntKind.u64.wrap (now + (((l.getD i default).now).tmod (16 : Int))))), (5, .int .i64 (IntKind.i64.wrap ((i : Int) + (1 : Int))))], [.cells 25 [.str ((tryF lh lu lt ((l.getD i default).who) (IntKind.u64.wrap (now + (((l.getD i default).now).tmod (16 : Int)))) (IntKind.u64.wrap ((((l.getD i default).span).tmod (20 : Int)) + (1 : Int)))).1), .int .u64 ((tryF lh lu lt ((l.getD i default).who) (IntKind.u64.wrap (now + (((l.getD i default).now).tmod (16 : Int)))) (IntKind.u64.wrap ((((l.getD i default).span).tmod (20 : Int)) + (1 : Int)))).2.1), .int .u64 ((tryF lh lu lt ((l.getD i default).who) (IntKind.u64.wrap (now + (((l.getD i default).now).tmod (16 : Int)))) (IntKind.u64.wrap ((((l.getD i default).span).tmod (20 : Int)) + (1 : Int)))).2.2.1)]]⟩)))
      (.ask (decide ((((0 : Nat) + cntF l lh lu lt (IntKind.u64.wrap (now + (((l.getD i default).now).tmod (16 : Int)))) i 0 : Nat) : Int) > (1 : Int)))
        (.leaf .ret ⟨slots 112 [(2, .bool false)], []⟩)
        (.leaf .normal ⟨slots 112 [(0, .coll (.asks l)), (3, .ptr 0 0), (4, .int .u64 (IntKind.u64.wrap (now + (((l.getD i default).now).tmod (16 : Int))))), (5, .int .i64 (IntKind.i64.wrap ((i : Int) + (1 : Int))))], [.cells 25 [.str lh, .int .u64 lu, .int .u64 lt]]⟩)))
    (.leaf (.exit 0) ⟨slots 112 [], []⟩))
def outT (_ : List XAsk) (_ : ByteArray) (_ _ _ : Int) (_ : Nat) : Tree := .leaf (.exit 0) ⟨slots 112 [], []⟩
theorem out_lok (l : List XAsk) (i : Nat) (hlen : l.length < 9223372036854775807) : LoopsOk Try.prog 0 (fun _ s => match s.h, s.t.getD 4 .unk with | .cells 25 [.str a, .int .u64 b, .int .u64 c] :: _, .int .u64 n => some (midS l a b c n i 0 0, .need [i < l.length] (midT l a b c n i 0 0)) | _, _ => none) 0 outC :=
  LoopsOk.all (l := [(2, midC)]) (by kernel_rfl) fun q hq s p T hs => by
    obtain rfl := List.mem_singleton.1 hq
    split at hs
    · rename_i a b c _ n _ _
      simp only [Option.some.injEq, Prod.mk.injEq] at hs
      obtain ⟨rfl, rfl⟩ := hs
      exact ⟨by kernel_rfl, Nat.zero_le _, fun Q h => mid_loop l a b c n i hlen (h.1 _ List.mem_cons_self) ⟨(0, 0), Nat.zero_le _, Nat.zero_le _⟩ Q h.2⟩
    · cases hs
theorem out_loop (l : List XAsk) (hlen : l.length < 9223372036854775807) (hask : ∀ i, i < l.length → (l.getD i default).who.size < 9223372036854775807) (z : { z : ByteArray × Int × Int × Int × Nat // let (lh, lu, lt, now, i) := z; 0 ≤ now ∧ i ≤ l.length }) (Q : Exit → St → Prop) (h : (outT l z.1.1 z.1.2.1 z.1.2.2.1 z.1.2.2.2.1 z.1.2.2.2.2).All Q) : Tr Try.prog 0 (.loop outC) (outS l z.1.1 z.1.2.1 z.1.2.2.1 z.1.2.2.2.1 z.1.2.2.2.2) Q := by
  refine Tr_loopT (kok _ _ _ _) (E := E11) (ι := { z : ByteArray × Int × Int × Int × Nat // let (lh, lu, lt, now, i) := z; 0 ≤ now ∧ i ≤ l.length }) 60 0 (fun z => (fun _ s => match s.h, s.t.getD 4 .unk with | .cells 25 [.str a, .int .u64 b, .int .u64 c] :: _, .int .u64 n => some (midS l a b c n (z.1.2.2.2.2) 0 0, .need [(z.1.2.2.2.2) < l.length] (midT l a b c n (z.1.2.2.2.2) 0 0)) | _, _ => none)) (fun z => outS l z.1.1 z.1.2.1 z.1.2.2.1 z.1.2.2.2.1 z.1.2.2.2.2) (fun z => outT l z.1.1 z.1.2.1 z.1.2.2.1 z.1.2.2.2.1 z.1.2.2.2.2) (fun z => outR l z.1.1 z.1.2.1 z.1.2.2.1 z.1.2.2.2.1 z.1.2.2.2.2) (fun z => l.length - (z.1.2.2.2.2)) (fun z => out_lok l (z.1.2.2.2.2) hlen) (fun z => by obtain ⟨⟨lh, lu, lt, now, i⟩, hi⟩ := z; kernel_rfl) (fun z => by obtain ⟨⟨lh, lu, lt, now, i⟩, hi⟩ := z; kernel_rfl) ?_ (fun z => by obtain ⟨⟨lh, lu, lt, now, i⟩, hi⟩ := z; kernel_rfl) ?_ z Q h
  · rintro ⟨⟨lh, lu, lt, now, i⟩, hi⟩
    intro o ho hway
    rw [show obl (evCode E11 (fun _ s => match s.h, s.t.getD 4 .unk with | .cells 25 [.str a, .int .u64 b, .int .u64 c] :: _, .int .u64 n => some (midS l a b c n i 0 0, .need [i < l.length] (midT l a b c n i 0 0)) | _, _ => none) 60 0 outC (outS l lh lu lt now i)) = [([(cond (decide ((i : Int) < (l.length : Int))) (decide ((i : Int) < (60 : Int))) false, true)], 0 ≤ (i : Int) ∧ (i : Int) < (l.length : Int)), ([(cond (decide ((i : Int) < (l.length : Int))) (decide ((i : Int) < (60 : Int))) false, true)], (16 : Int) ≠ 0), ([(cond (decide ((i : Int) < (l.length : Int))) (decide ((i : Int) < (60 : Int))) false, true)], 0 ≤ (i : Int) ∧ (i : Int) < (l.length : Int)), ([(cond (decide ((i : Int) < (l.length : Int))) (decide ((i : Int) < (60 : Int))) false, true)], 0 ≤ (i : Int) ∧ (i : Int) < (l.length : Int)), ([(cond (decide ((i : Int) < (l.length : Int))) (decide ((i : Int) < (60 : Int))) false, true)], (20 : Int) ≠ 0), ([(cond (decide ((i : Int) < (l.length : Int))) (decide ((i : Int) < (60 : Int))) false, true)], ((l.getD i default).who).size < 9223372036854775807), ([(cond (decide ((i : Int) < (l.length : Int))) (decide ((i : Int) < (60 : Int))) false, true), (((tryF lh lu lt ((l.getD i default).who) (IntKind.u64.wrap (now + (((l.getD i default).now).tmod (16 : Int)))) (IntKind.u64.wrap ((((l.getD i default).span).tmod (20 : Int)) + (1 : Int)))).2.2.2) == (0 : Int), true)], ((!(decide (lh = (⟨#[]⟩ : ByteArray)))) = true) → 0 ≤ (i : Int) ∧ (i : Int) < (l.length : Int)), ([(cond (decide ((i : Int) < (l.length : Int))) (decide ((i : Int) < (60 : Int))) false, true), (((tryF lh lu lt ((l.getD i default).who) (IntKind.u64.wrap (now + (((l.getD i default).now).tmod (16 : Int)))) (IntKind.u64.wrap ((((l.getD i default).span).tmod (20 : Int)) + (1 : Int)))).2.2.2) == (0 : Int), true), (cond (cond (!(decide (lh = (⟨#[]⟩ : ByteArray)))) (!(decide (lh = ((l.getD i default).who)))) false) (decide ((IntKind.u64.wrap (now + (((l.getD i default).now).tmod (16 : Int)))) < lu)) false, false)], i < l.length), ([(cond (decide ((i : Int) < (l.length : Int))) (decide ((i : Int) < (60 : Int))) false, true), (((tryF lh lu lt ((l.getD i default).who) (IntKind.u64.wrap (now + (((l.getD i default).now).tmod (16 : Int)))) (IntKind.u64.wrap ((((l.getD i default).span).tmod (20 : Int)) + (1 : Int)))).2.2.2) == (0 : Int), false)], i < l.length)] from by kernel_rfl] at ho
    simp only [List.mem_cons, List.not_mem_nil, or_false] at ho
    rcases ho with rfl | rfl | rfl | rfl | rfl | rfl | rfl | rfl | rfl
    · have h := hway.1; simp only [Bool.cond_false_right, Bool.and_eq_true, decide_eq_true_eq] at h; first | exact ⟨by omega, h.1⟩ | exact fun _ => ⟨by omega, h.1⟩ | (show (_ : Int) ≠ 0; decide) | exact fun _ => hask _ (by omega) | exact hask _ (by omega) | (show i < l.length; omega)
    · have h := hway.1; simp only [Bool.cond_false_right, Bool.and_eq_true, decide_eq_true_eq] at h; first | exact ⟨by omega, h.1⟩ | exact fun _ => ⟨by omega, h.1⟩ | (show (_ : Int) ≠ 0; decide) | exact fun _ => hask _ (by omega) | exact hask _ (by omega) | (show i < l.length; omega)
    · have h := hway.1; simp only [Bool.cond_false_right, Bool.and_eq_true, decide_eq_true_eq] at h; first | exact ⟨by omega, h.1⟩ | exact fun _ => ⟨by omega, h.1⟩ | (show (_ : Int) ≠ 0; decide) | exact fun _ => hask _ (by omega) | exact hask _ (by omega) | (show i < l.length; omega)
    · have h := hway.1; simp only [Bool.cond_false_right, Bool.and_eq_true, decide_eq_true_eq] at h; first | exact ⟨by omega, h.1⟩ | exact fun _ => ⟨by omega, h.1⟩ | (show (_ : Int) ≠ 0; decide) | exact fun _ => hask _ (by omega) | exact hask _ (by omega) | (show i < l.length; omega)
    · have h := hway.1; simp only [Bool.cond_false_right, Bool.and_eq_true, decide_eq_true_eq] at h; first | exact ⟨by omega, h.1⟩ | exact fun _ => ⟨by omega, h.1⟩ | (show (_ : Int) ≠ 0; decide) | exact fun _ => hask _ (by omega) | exact hask _ (by omega) | (show i < l.length; omega)
    · have h := hway.1; simp only [Bool.cond_false_right, Bool.and_eq_true, decide_eq_true_eq] at h; first | exact ⟨by omega, h.1⟩ | exact fun _ => ⟨by omega, h.1⟩ | (show (_ : Int) ≠ 0; decide) | exact fun _ => hask _ (by omega) | exact hask _ (by omega) | (show i < l.length; omega)
    · have h := hway.1; simp only [Bool.cond_false_right, Bool.and_eq_true, decide_eq_true_eq] at h; first | exact ⟨by omega, h.1⟩ | exact fun _ => ⟨by omega, h.1⟩ | (show (_ : Int) ≠ 0; decide) | exact fun _ => hask _ (by omega) | exact hask _ (by omega) | (show i < l.length; omega)
    · have h := hway.1; simp only [Bool.cond_false_right, Bool.and_eq_true, decide_eq_true_eq] at h; first | exact ⟨by omega, h.1⟩ | exact fun _ => ⟨by omega, h.1⟩ | (show (_ : Int) ≠ 0; decide) | exact fun _ => hask _ (by omega) | exact hask _ (by omega) | (show i < l.length; omega)
    · have h := hway.1; simp only [Bool.cond_false_right, Bool.and_eq_true, decide_eq_true_eq] at h; first | exact ⟨by omega, h.1⟩ | exact fun _ => ⟨by omega, h.1⟩ | (show (_ : Int) ≠ 0; decide) | exact fun _ => hask _ (by omega) | exact hask _ (by omega) | (show i < l.length; omega)
  · rintro ⟨⟨lh, lu, lt, now, i⟩, hi⟩ Q hT
    replace hT : (outT l lh lu lt now i).All Q := hT
    show (outR l lh lu lt now i).All _
    obtain ⟨hnow, hle⟩ : 0 ≤ now ∧ i ≤ l.length := hi
    unfold outR
    have n0 := u64_nonneg (now + (((l.getD i default).now).tmod (16 : Int)))
    generalize (l.getD i default).who = w
    generalize IntKind.u64.wrap (now + (((l.getD i default).now).tmod (16 : Int))) = n at n0
    generalize IntKind.u64.wrap ((((l.getD i default).span).tmod (20 : Int)) + (1 : Int)) = p
    have next : ∀ (a : ByteArray) (b c : Int), (cond (decide ((i : Int) < (l.length : Int))) (decide ((i : Int) < (60 : Int))) false) = true → ∃ j : { z : ByteArray × Int × Int × Int × Nat // let (lh, lu, lt, now, i) := z; 0 ≤ now ∧ i ≤ l.length }, l.length - j.1.2.2.2.2 < l.length - i ∧
        (⟨slots 112 [(0, .coll (.asks l)), (3, .ptr 0 0), (4, .int .u64 n), (5, .int .i64 (IntKind.i64.wrap ((i : Int) + (1 : Int))))], [.cells 25 [.str a, .int .u64 b, .int .u64 c]]⟩ : St) = outS l j.1.1 j.1.2.1 j.1.2.2.1 j.1.2.2.2.1 j.1.2.2.2.2 ∧ (outT l j.1.1 j.1.2.1 j.1.2.2.1 j.1.2.2.2.1 j.1.2.2.2.2).All Q := by
      intro a b c h1
      simp only [Bool.cond_false_right, Bool.and_eq_true, decide_eq_true_eq] at h1
      refine ⟨⟨(a, b, c, n, i + 1), show 0 ≤ n ∧ i + 1 ≤ l.length from ⟨n0, by omega⟩⟩, show l.length - (i + 1) < l.length - i by omega, ?_, hT⟩
      show _ = outS l a b c n (i + 1)
      unfold outS
      rw [← wrap_succ (i := i) (by have := hlen; omega)]
    have one : ∀ (a : ByteArray) (b c : Int), (cond (decide ((i : Int) < (l.length : Int))) (decide ((i : Int) < (60 : Int))) false) = true → ¬ decide (((0 + cntF l a b c n i 0 : Nat) : Int) > (1 : Int)) = true := by
      intro a b c h1
      simp only [Bool.cond_false_right, Bool.and_eq_true, decide_eq_true_eq] at h1
      have := cnt_le (l := l) (lh := a) (lu := b) (lt := c) (now := n) (i := i) (by omega)
      rw [decide_eq_true_eq]
      omega
    refine ⟨fun h1 => ⟨fun h2 => ⟨fun h3 => ?_, fun h3 => ⟨fun h4 => ?_, fun h4 => ?_⟩⟩, fun h2 => ⟨fun h4 => ?_, fun h4 => ?_⟩⟩, fun h1 => hT⟩
    · exfalso
      have h2 : (tryF lh lu lt w n p).2.2.2 = 0 := by simpa using h2
      simp only [Bool.cond_false_right, Bool.and_eq_true, Bool.not_eq_true', decide_eq_false_iff_not, decide_eq_true_eq] at h3
      obtain ⟨_, _, _, _, hc⟩ := try_ok h2
      rcases hc with ⟨ha | ha, _⟩ | ⟨_, hl, _⟩
      · exact h3.1.1 ha
      · omega
      · exact h3.1.2 hl
    · exact absurd h4 (one _ _ _ h1)
    · exact next _ _ _ h1
    · exact absurd h4 (one _ _ _ h1)
    · exact next _ _ _ h1

end Go.Proofs.Ytofimhodpemmiaa
