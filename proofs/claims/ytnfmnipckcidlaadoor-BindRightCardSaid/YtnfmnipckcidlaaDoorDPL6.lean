/- Binding: plain laws: what rests, unlike refs. -/
import Derived.Test.YtnfmnipckcidlaaDoorDPL4
import Derived.Test.YtnfmnipckcidlaaDoorDLawC
import Derived.Test.YtnfmnipckcidlaaDoorDLawF
set_option linter.unusedVariables false
set_option linter.unusedSimpArgs false
set_option maxRecDepth 100000
namespace Go.Proofs.YtnfmnipckcidlaaDoor
open Go Go.Eng
theorem rests_claim (l : List XObj) (v : Int) (c : XObj) : bind_ClaimF (restsL l c) v c.name = default := by
  rw [Claim_eq]
  unfold r12_ClaimF
  have hg : r12_GetF (r12_UniqF (restsL l c)) 3 c.name = ({ c with kind := 3, deleting := false, phase := 3 }, true) := by
    rw [get_uniq]
    unfold restsL
    rw [r12_Get_eq]
    unfold r12_GetLF
    simp
  rw [hg]
  dsimp only
  cases decide (r12_HandleF { c with kind := 3, deleting := false, phase := 3 } = (⟨#[]⟩ : ByteArray)) <;> rfl
theorem rests_volume (l : List XObj) (v : Int) (c : XObj) : bind_VolumeF (restsL l c) v c.volume = default := by
  rw [Volume_eq]
  unfold r12_VolumeF
  have hg : r12_GetF (r12_UniqF (restsL l c)) 4 c.volume = (⟨4, c.volume, 0, 0, false, false, ⟨#[]⟩, 0, 0, 0, false, false, ⟨#[]⟩, ⟨#[]⟩, r12_RefF { c with kind := 3, deleting := false, phase := 3 }, ⟨#[]⟩, ⟨#[]⟩, 3, 0, 0⟩, true) := by
    rw [get_uniq]
    unfold restsL
    rw [r12_Get_eq]
    simp [r12_GetLF]
  have hm : ({ c with kind := 3, deleting := false, phase := 3 } : XObj) ∈ r12_UniqF (restsL l c) := by
    have h4 := uniq_get 3 c.name (restsL l c) []
    rw [List.nil_append, show r12_GetLF 3 c.name (restsL l c) = (true, { c with kind := 3, deleting := false, phase := 3 }) by simp [restsL, r12_GetLF]] at h4
    have h5 := get_here 3 c.name (r12_UniqLF (restsL l c) []) (by rw [h4])
    rw [h4] at h5
    exact h5
  have hl : r12_VolumeLF (restsL l c) c.volume (r12_UniqF (restsL l c)) = true := by
    have : ∀ q : List XObj, ({ c with kind := 3, deleting := false, phase := 3 } : XObj) ∈ q → r12_VolumeLF (restsL l c) c.volume q = true := by
      intro q
      induction q with
      | nil => intro h; simp at h
      | cons p r ih =>
        intro h
        unfold r12_VolumeLF
        rcases List.mem_cons.1 h with rfl | h
        · rw [hg]; simp
        · rw [ih h]
          cases cond (p.kind == (3 : Int)) (decide (r12_RefF p = (r12_GetF (r12_UniqF (restsL l c)) 4 c.volume).1.claim)) false <;> rfl
    exact this _ hm
  rw [hl, hg]
  rfl
theorem bindRests (l : List XObj) (v : Int) (c : XObj) : w12_BindRestsF l v c = true := by
  unfold w12_BindRestsF
  rw [live_true, rests_claim, rests_volume]
  exact rfl
theorem digits_no_hash : ∀ (u : Nat), (35 : UInt8) ∉ Lib.decDigits u := by
  intro u
  induction u using Nat.strongRecOn with
  | ind u ih =>
    rw [Lib.decDigits]
    split
    · rename_i h
      simp only [List.mem_singleton]
      intro e
      have := congrArg UInt8.toNat e
      simp at this
      omega
    · rename_i h
      simp only [List.mem_append, List.mem_singleton, not_or]
      refine ⟨ih _ (by omega), fun e => ?_⟩
      have := congrArg UInt8.toNat e
      simp at this
      omega
theorem decDigits_ne_nil (u : Nat) : Lib.decDigits u ≠ [] := by
  rw [Lib.decDigits]
  split <;> simp
theorem dd_big {u : Nat} (h : ¬ u < 10) : Lib.decDigits u = Lib.decDigits (u / 10) ++ [UInt8.ofNat (48 + u % 10)] := by rw [Lib.decDigits, dif_neg h]
theorem decDigits_inj : ∀ (u v : Nat), Lib.decDigits u = Lib.decDigits v → u = v := by
  intro u
  induction u using Nat.strongRecOn with
  | ind u ih =>
    intro v h
    by_cases hu : u < 10
    · by_cases hv : v < 10
      · rw [Lib.decDigits_one hu, Lib.decDigits_one hv] at h
        have := congrArg UInt8.toNat (List.cons.inj h).1
        simp at this
        omega
      · rw [Lib.decDigits_one hu, dd_big hv] at h
        have hl := congrArg List.length h
        have hp := List.length_pos_iff.2 (decDigits_ne_nil (v / 10))
        simp only [List.length_append, List.length_cons, List.length_nil] at hl
        omega
    · by_cases hv : v < 10
      · rw [Lib.decDigits_one hv, dd_big hu] at h
        have hl := congrArg List.length h
        have hp := List.length_pos_iff.2 (decDigits_ne_nil (u / 10))
        simp only [List.length_append, List.length_cons, List.length_nil] at hl
        omega
      · rw [dd_big hu, dd_big hv] at h
        have h2 := List.append_inj' h rfl
        have h3 := ih (u / 10) (by omega) _ h2.1
        have h4 := congrArg UInt8.toNat (List.cons.inj h2.2).1
        simp at h4
        omega
theorem hash_split : ∀ (a b d e : List UInt8), (35 : UInt8) ∉ d → (35 : UInt8) ∉ e → a ++ 35 :: d = b ++ 35 :: e → a = b ∧ d = e := by
  intro a b d e hd he h
  have hr := congrArg List.reverse h
  simp only [List.reverse_append, List.reverse_cons, List.append_assoc, List.singleton_append] at hr
  have key : ∀ (p q x y : List UInt8), (35 : UInt8) ∉ p → (35 : UInt8) ∉ q → p ++ 35 :: x = q ++ 35 :: y → p = q ∧ x = y := by
    intro p
    induction p with
    | nil =>
      intro q x y _ hq h
      cases q with
      | nil => simp at h; exact ⟨rfl, h⟩
      | cons c q => simp at h; exact absurd (h.1 ▸ List.mem_cons_self) hq
    | cons c p ih =>
      intro q x y hp hq h
      cases q with
      | nil => simp at h; exact absurd (h.1 ▸ List.mem_cons_self) hp
      | cons c' q =>
        simp only [List.cons_append, List.cons.injEq] at h
        obtain ⟨h1, h2⟩ := ih q x y (fun m => hp (List.mem_cons_of_mem _ m)) (fun m => hq (List.mem_cons_of_mem _ m)) h.2
        exact ⟨by rw [h.1, h1], h2⟩
  obtain ⟨h1, h2⟩ := key d.reverse e.reverse a.reverse b.reverse (by simpa using hd) (by simpa using he) hr
  exact ⟨List.reverse_inj.1 h2, List.reverse_inj.1 h1⟩
def rawRef (a : ByteArray) (n : Int) : ByteArray := (a ++ (⟨#[35]⟩ : ByteArray)) ++ (fmtU n)
theorem rawRef_list (a : ByteArray) (n : Int) : (rawRef a n).data.toList = a.data.toList ++ 35 :: Lib.decDigits n.toNat := by
  simp [rawRef, fmtU, ByteArray.data_append]
theorem ext_list {a b : ByteArray} (h : a.data.toList = b.data.toList) : a = b := by
  cases a; cases b
  simp only [ByteArray.mk.injEq]
  exact Array.toList_inj.1 h
theorem rawRef_inj {a b : ByteArray} {m n : Int} (hm : 0 ≤ m) (hn : 0 ≤ n) (h : rawRef a m = rawRef b n) : a = b ∧ m = n := by
  have hl := congrArg (fun x : ByteArray => x.data.toList) h
  simp only [rawRef_list] at hl
  obtain ⟨h3, h4⟩ := hash_split _ _ _ _ (digits_no_hash _) (digits_no_hash _) hl
  have h5 := decDigits_inj _ _ h4
  exact ⟨ext_list h3, by omega⟩
theorem rawRef_ne (a : ByteArray) (n : Int) : decide (rawRef a n = (⟨#[]⟩ : ByteArray)) = false := by
  rw [decide_eq_false_iff_not]
  intro h
  have hl := congrArg (fun x : ByteArray => x.data.toList) h
  simp only [rawRef_list] at hl
  simp at hl
def rawHandle (a : ByteArray) (n : Int) : ByteArray := (((⟨#[112, 118, 99, 47]⟩ : ByteArray) ++ a) ++ (⟨#[35]⟩ : ByteArray)) ++ (fmtU n)
theorem rawHandle_list (a : ByteArray) (n : Int) : (rawHandle a n).data.toList = [112, 118, 99, 47] ++ (rawRef a n).data.toList := by
  simp [rawHandle, rawRef_list, fmtU, ByteArray.data_append]
theorem rawHandle_ne (a : ByteArray) (n : Int) : decide (rawHandle a n = (⟨#[]⟩ : ByteArray)) = false := by
  rw [decide_eq_false_iff_not]
  intro h
  have hl := congrArg (fun x : ByteArray => x.data.toList) h
  simp only [rawHandle_list] at hl
  simp at hl
theorem rawHandle_iff (a b : ByteArray) (m n : Int) : rawHandle a m = rawHandle b n ↔ rawRef a m = rawRef b n := by
  constructor
  · intro h
    have hl := congrArg (fun x : ByteArray => x.data.toList) h
    simp only [rawHandle_list] at hl
    exact ext_list (List.append_cancel_left hl)
  · intro h
    apply ext_list
    rw [rawHandle_list, rawHandle_list, h]
theorem handle_raw (o : XObj) : r12_HandleF o = cond (decide (((rawHandle o.name o.born).size : Int) > 40)) ⟨#[]⟩ (rawHandle o.name o.born) := rfl
theorem ref_raw (o : XObj) : r12_RefF o = cond (decide (((rawHandle o.name o.born).size : Int) > 40)) ⟨#[]⟩ (rawRef o.name o.born) := by
  unfold r12_RefF
  rw [handle_raw]
  cases decide (((rawHandle o.name o.born).size : Int) > 40) with
  | true => rfl
  | false => rw [cond_false, rawHandle_ne]; rfl
theorem bindRefs (a b : ByteArray) (m n : Int) (h1 : 0 ≤ m) (h3 : 0 ≤ n) : w12_BindRefsF a b m n = true := by
  unfold w12_BindRefsF
  rw [live_true]
  simp only [ref_eq, handle_eq, ref_raw, handle_raw]
  by_cases ca : ((rawHandle a m).size : Int) > 40 <;> by_cases cb : ((rawHandle b n).size : Int) > 40
  · simp only [ca, cb, decide_true, cond_true, Bool.not_true, cond_false]
  · simp only [ca, cb, decide_true, decide_false, cond_true, cond_false, rawRef_ne, rawHandle_ne, Bool.not_true, Bool.not_false]
  · simp only [ca, cb, decide_true, decide_false, cond_true, cond_false, rawRef_ne, rawHandle_ne, Bool.not_true, Bool.not_false]
  · simp only [ca, cb, decide_false, cond_false, rawRef_ne, rawHandle_ne, cond_true]
    have h : (decide (rawRef a m = rawRef b n)) = (cond (decide (a = b)) (m == n) false) := by
      by_cases q : rawRef a m = rawRef b n
      · obtain ⟨r1, r2⟩ := rawRef_inj h1 h3 q
        simp [r1, r2]
      · rw [decide_eq_false q]
        by_cases r1 : a = b
        · by_cases r2 : m = n
          · exact absurd (by rw [r1, r2]) q
          · simp [r1, r2]
        · simp [r1]
    rw [h]
    have h' : (decide (rawHandle a m = rawHandle b n)) = (cond (decide (a = b)) (m == n) false) := by
      rw [← h]; exact decide_eq_decide.2 (rawHandle_iff a b m n)
    rw [h']
    simp
end Go.Proofs.YtnfmnipckcidlaaDoor
