/- Data: plain laws: unlike snapshots have unlike names at the driver. -/
import Derived.Test.YtondcpkhedjajaaDoorDPL3
import Derived.Test.YtondcpkhedjajaaDoorDLawF
set_option maxRecDepth 100000
namespace Go.Proofs.YtondcpkhedjajaaDoor
open Go Go.Eng
theorem digits_no_hash : ∀ (u : Nat), (35 : UInt8) ∉ Lib.decDigits u := by
  intro u
  induction u using Nat.strongRecOn with
  | ind u ih =>
    rw [Lib.decDigits]
    split
    · rename_i h
      simp only [List.mem_singleton]
      intro e
      have := congrArg UInt8.toNat e
      simp at this
      omega
    · rename_i h
      simp only [List.mem_append, List.mem_singleton, not_or]
      refine ⟨ih _ (by omega), fun e => ?_⟩
      have := congrArg UInt8.toNat e
      simp at this
      omega
theorem decDigits_ne_nil (u : Nat) : Lib.decDigits u ≠ [] := by
  rw [Lib.decDigits]
  split <;> simp
theorem dd_big {u : Nat} (h : ¬ u < 10) : Lib.decDigits u = Lib.decDigits (u / 10) ++ [UInt8.ofNat (48 + u % 10)] := by rw [Lib.decDigits, dif_neg h]
theorem decDigits_inj : ∀ (u v : Nat), Lib.decDigits u = Lib.decDigits v → u = v := by
  intro u
  induction u using Nat.strongRecOn with
  | ind u ih =>
    intro v h
    by_cases hu : u < 10
    · by_cases hv : v < 10
      · rw [Lib.decDigits_one hu, Lib.decDigits_one hv] at h
        have := congrArg UInt8.toNat (List.cons.inj h).1
        simp at this
        omega
      · rw [Lib.decDigits_one hu, dd_big hv] at h
        have hl := congrArg List.length h
        have hp := List.length_pos_iff.2 (decDigits_ne_nil (v / 10))
        simp only [List.length_append, List.length_cons, List.length_nil] at hl
        omega
    · by_cases hv : v < 10
      · rw [Lib.decDigits_one hv, dd_big hu] at h
        have hl := congrArg List.length h
        have hp := List.length_pos_iff.2 (decDigits_ne_nil (u / 10))
        simp only [List.length_append, List.length_cons, List.length_nil] at hl
        omega
      · rw [dd_big hu, dd_big hv] at h
        have h2 := List.append_inj' h rfl
        have h3 := ih (u / 10) (by omega) _ h2.1
        have h4 := congrArg UInt8.toNat (List.cons.inj h2.2).1
        simp at h4
        omega
theorem hash_split : ∀ (a b d e : List UInt8), (35 : UInt8) ∉ d → (35 : UInt8) ∉ e → a ++ 35 :: d = b ++ 35 :: e → a = b ∧ d = e := by
  intro a b d e hd he h
  have hr := congrArg List.reverse h
  simp only [List.reverse_append, List.reverse_cons, List.append_assoc, List.singleton_append] at hr
  have key : ∀ (p q x y : List UInt8), (35 : UInt8) ∉ p → (35 : UInt8) ∉ q → p ++ 35 :: x = q ++ 35 :: y → p = q ∧ x = y := by
    intro p
    induction p with
    | nil =>
      intro q x y _ hq h
      cases q with
      | nil => simp at h; exact ⟨rfl, h⟩
      | cons c q => simp at h; exact absurd (h.1 ▸ List.mem_cons_self) hq
    | cons c p ih =>
      intro q x y hp hq h
      cases q with
      | nil => simp at h; exact absurd (h.1 ▸ List.mem_cons_self) hp
      | cons c' q =>
        simp only [List.cons_append, List.cons.injEq] at h
        obtain ⟨h1, h2⟩ := ih q x y (fun m => hp (List.mem_cons_of_mem _ m)) (fun m => hq (List.mem_cons_of_mem _ m)) h.2
        exact ⟨by rw [h.1, h1], h2⟩
  obtain ⟨h1, h2⟩ := key d.reverse e.reverse a.reverse b.reverse (by simpa using hd) (by simpa using he) hr
  exact ⟨List.reverse_inj.1 h2, List.reverse_inj.1 h1⟩
/-- A snapshot's name, before it is found too long. -/
def rawHandle (a : ByteArray) (n : Int) : ByteArray := (((⟨#[115, 110, 97, 112, 47]⟩ : ByteArray) ++ a) ++ (⟨#[35]⟩ : ByteArray)) ++ (fmtU n)
theorem rawHandle_list (a : ByteArray) (n : Int) : (rawHandle a n).data.toList = [115, 110, 97, 112, 47] ++ (a.data.toList ++ 35 :: Lib.decDigits n.toNat) := by
  simp [rawHandle, fmtU, ByteArray.data_append]
theorem rawHandle_inj {a b : ByteArray} {m n : Int} (hm : 0 ≤ m) (hn : 0 ≤ n) (h : rawHandle a m = rawHandle b n) : a = b ∧ m = n := by
  have hl := congrArg (fun x : ByteArray => x.data.toList) h
  simp only [rawHandle_list] at hl
  have h2 := List.append_cancel_left hl
  obtain ⟨h3, h4⟩ := hash_split _ _ _ _ (digits_no_hash _) (digits_no_hash _) h2
  have h5 := decDigits_inj _ _ h4
  refine ⟨?_, by omega⟩
  cases a; cases b
  simp only [ByteArray.mk.injEq]
  exact Array.toList_inj.1 h3
theorem rawHandle_size (a : ByteArray) {n : Int} (h : n ≤ 18446744073709551615) : (rawHandle a n).size ≤ a.size + 26 ∧ 5 ≤ (rawHandle a n).size := by
  have := fmtU_size h
  unfold rawHandle
  simp only [ByteArray.size_append, size_mk, List.size_toArray, List.length_cons, List.length_nil]
  omega
theorem rawHandle_head (a : ByteArray) (n : Int) : (rawHandle a n).extract 0 5 = (⟨#[115, 110, 97, 112, 47]⟩ : ByteArray) := by
  have : ((rawHandle a n).extract 0 5).data.toList = (⟨#[115, 110, 97, 112, 47]⟩ : ByteArray).data.toList := by
    rw [ByteArray.data_extract, Array.toList_extract, rawHandle_list]
    simp [List.extract]
  generalize hx : (rawHandle a n).extract 0 5 = x at this
  cases x
  simp only [ByteArray.mk.injEq]
  exact Array.toList_inj.1 this
theorem dataHandles (a b : ByteArray) (m n : Int) (ha : a.size < 4611686018427387904) (h1 : 0 ≤ m) (h2 : m ≤ 18446744073709551615) (h3 : 0 ≤ n) (h4 : n ≤ 18446744073709551615) : w14_DataHandlesF a b m n = true := by
  have hx : ∀ (o : XObj), data_HandleF o = cond (decide (((rawHandle o.name o.born).size : Int) ≤ 40)) (rawHandle o.name o.born) ⟨#[]⟩ := fun _ => rfl
  unfold w14_DataHandlesF
  rw [live_true]
  simp only [hx]
  have sx := rawHandle_size a h2
  have sy := rawHandle_size b h4
  have ne : ∀ {x : ByteArray}, 5 ≤ x.size → (decide (x = (⟨#[]⟩ : ByteArray))) = false := fun {x} hz => by
    rw [decide_eq_false_iff_not]; rintro rfl; simp [size_mk] at hz
  have w7 : IntKind.i64.wrap ((a.size : Int) + 7) = (a.size : Int) + 7 := wrap_i64 (by omega) (by omega)
  have w26 : IntKind.i64.wrap ((a.size : Int) + 26) = (a.size : Int) + 26 := wrap_i64 (by omega) (by omega)
  rw [w7, w26]
  by_cases c1 : ((rawHandle a m).size : Int) ≤ 40
  · by_cases c2 : ((rawHandle b n).size : Int) ≤ 40
    · simp only [c1, c2, decide_true, cond_true, ne sx.2, ne sy.2, cond_false, rawHandle_head]
      have : (decide (rawHandle a m = rawHandle b n) == cond (decide (a = b)) (m == n) false) = true := by
        by_cases e : rawHandle a m = rawHandle b n
        · obtain ⟨rfl, rfl⟩ := rawHandle_inj h1 h3 e
          simp
        · have : ¬ (a = b ∧ m = n) := fun q => e (by rw [q.1, q.2])
          by_cases qa : a = b
          · have qm : ¬ m = n := fun q => this ⟨qa, q⟩
            have qm' : (m == n) = false := by simpa using qm
            rw [decide_eq_false e, decide_eq_true qa, qm']
            rfl
          · simp [e, qa]
      rw [this]
      rfl
    · simp only [c1, c2, decide_true, decide_false, cond_true, cond_false, ne sx.2]
      simp [size_mk]
  · have : (a.size : Int) + 26 > 40 := by omega
    simp only [c1, decide_false, cond_false, decide_true, cond_true]
    by_cases c2 : ((rawHandle b n).size : Int) ≤ 40
    · simp [c2, this, size_mk]
    · simp [c2, this, size_mk]
end Go.Proofs.YtondcpkhedjajaaDoor
