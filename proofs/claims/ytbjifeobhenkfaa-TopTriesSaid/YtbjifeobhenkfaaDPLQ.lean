/- By hand: who fails again and again. -/
import Derived.Test.YtbjifeobhenkfaaDQueue
set_option linter.unusedVariables false
set_option linter.unusedSimpArgs false
set_option maxRecDepth 100000
namespace Go.Proofs.Ytbjifeobhenkfaa
open Go Go.Eng
abbrev KC : XKey := ⟨(3 : Int), (⟨#[99]⟩ : ByteArray)⟩
theorem delay_range {x : Int} (h : 1 ≤ x ∧ x ≤ 40) : 1 ≤ workq_DelayF x ∧ workq_DelayF x ≤ 64 := by
 unfold workq_DelayF
 rw [decide_eq_false (by omega), cond_false, wrap_i64 (by omega) (by omega)]
 have hh : ∀ e : Int, 0 ≤ e → e ≤ 6 → 1 ≤ shlI .u64 1 e ∧ shlI .u64 1 e ≤ 64 := by
  intro e h0 h1
  have : e = 0 ∨ e = 1 ∨ e = 2 ∨ e = 3 ∨ e = 4 ∨ e = 5 ∨ e = 6 := by omega
  rcases this with rfl | rfl | rfl | rfl | rfl | rfl | rfl <;> decide
 exact hh _ (by split <;> omega) (by split <;> omega)
def FK (f : List (XKey × Int)) : Prop := f = [] ∨ ∃ c, f = [(KC, c)] ∧ 0 ≤ c ∧ c ≤ 40
theorem fk_get {f : List (XKey × Int)} (h : FK f) : 0 ≤ (mget (k := .key) (v := (.int .i64)) f KC).getD default ∧ (mget (k := .key) (v := (.int .i64)) f KC).getD default ≤ 40 ∧ ∀ x, mset (k := .key) (v := (.int .i64)) f KC x = [(KC, x)] := by
 rcases h with rfl | ⟨c, rfl, h1, h2⟩
 · exact ⟨by decide, by decide, fun _ => rfl⟩
 · exact ⟨h1, h2, fun _ => rfl⟩
theorem fail1_at {now n : Int} {w : List (XKey × XSn)} {f : List (XKey × Int)} (hn : 0 ≤ now ∧ now ≤ 20000) (hf : FK f) : ∃ x, 1 ≤ x ∧ x ≤ 40 ∧ workq_Queue_Fail_1F KC now n w f = (now + workq_DelayF x, [(KC, x)]) := by
 obtain ⟨h1, h2, h3⟩ := fk_get hf
 unfold workq_Queue_Fail_1F
 obtain ⟨c, hc0⟩ : ∃ c : Int, (mget (k := .key) (v := (.int .i64)) f KC).getD default = c := ⟨_, rfl⟩
 rw [hc0] at h1 h2 ⊢
 have h1 : (0 : Int) ≤ c := h1
 have h2 : c ≤ (40 : Int) := h2
 have hc : 1 ≤ (if (40 : Int) < c + 1 then (40 : Int) else c + 1) ∧ (if (40 : Int) < c + 1 then (40 : Int) else c + 1) ≤ 40 := by split <;> omega
 refine ⟨if (40 : Int) < c + 1 then 40 else c + 1, hc.1, hc.2, ?_⟩
 have hd := delay_range hc
 rw [wrap_i64 (show (-9223372036854775808 : Int) ≤ c + 1 by omega) (by omega), room_up (by omega), h3]
 revert hd
 generalize workq_DelayF (if (40 : Int) < c + 1 then (40 : Int) else c + 1) = d
 intro hd
 rw [if_neg (by omega), wrap_u64 (by omega) (by omega)]
theorem fail_at {now n : Int} {f : List (XKey × Int)} (hn : 0 ≤ now ∧ now ≤ 20000) (hf : FK f) : ∃ d x, 1 ≤ d ∧ d ≤ 64 ∧ 1 ≤ x ∧ x ≤ 40 ∧
  workq_Queue_FailF KC now n [] f = (0, IntKind.i64.wrap (n + 1), [(KC, ⟨IntKind.i64.wrap (n + 1), now + d⟩)], [(KC, x)]) := by
 obtain ⟨x, h1, h2, h3⟩ := fail1_at (n := IntKind.i64.wrap (n + 1)) (w := []) hn hf
 have hd := delay_range ⟨h1, h2⟩
 refine ⟨workq_DelayF x, x, hd.1, hd.2, h1, h2, ?_⟩
 have hp : workq_Queue_putF KC n KC now [] f = (0, IntKind.i64.wrap (n + 1), [(KC, ⟨IntKind.i64.wrap (n + 1), (workq_Queue_Fail_1F KC now (IntKind.i64.wrap (n + 1)) [] f).1⟩)], (workq_Queue_Fail_1F KC now (IntKind.i64.wrap (n + 1)) [] f).2) := rfl
 unfold workq_Queue_FailF
 rw [hp, h3]
def QI (i : Nat) (v1 : Int) (v5 : List (XKey × XSn)) (v6 : List (XKey × Int)) : Prop := i ≤ 255 ∧ v5 = [] ∧ 0 ≤ v1 ∧ v1 ≤ 64 * i ∧ FK v6
theorem QI.now {i : Nat} {v1 : Int} {v5 : List (XKey × XSn)} {v6 : List (XKey × Int)} (h : QI i v1 v5 v6) : 0 ≤ v1 ∧ v1 ≤ 20000 := by
 obtain ⟨h1, _, h3, h4, _⟩ := h
 omega
theorem tries_len1 {i : Nat} {v1 n : Int} {v5 : List (XKey × XSn)} {v6 : List (XKey × Int)} (h : QI i v1 v5 v6) : (workq_Queue_FailF KC v1 n v5 v6).2.2.1.length ≤ 1 := by
 have hn := h.now
 obtain ⟨_, rfl, _, _, hf⟩ := h
 obtain ⟨d, x, _, _, _, _, e⟩ := fail_at (n := n) hn hf
 rw [e]
 exact Nat.le_refl _
theorem take_len {t n : Int} {w : List (XKey × XSn)} {f : List (XKey × Int)} (h : w.length ≤ 1) : (workq_Queue_TakeF t n w f).2.2.length ≤ 1 := by
 unfold workq_Queue_TakeF
 cases cond (!((firstF n w f).2.2)) true (decide (((firstF n w f).2.1).tag > t)) with
 | true => exact h
 | false =>
  match w, h with
  | [], _ => exact Nat.zero_le _
  | [y], _ =>
   show (mdel (k := .key) (v := .sn) [y] (firstF n [y] f).1).length ≤ 1
   simp only [mdel]
   split <;> simp
theorem tries_round {i : Nat} {v1 n : Int} {v5 : List (XKey × XSn)} {v6 : List (XKey × Int)} (h : QI i v1 v5 v6) : ∃ d x, 1 ≤ d ∧ d ≤ 64 ∧ 1 ≤ x ∧ x ≤ 40 ∧
  workq_Queue_FailF KC v1 n v5 v6 = (0, IntKind.i64.wrap (n + 1), [(KC, ⟨IntKind.i64.wrap (n + 1), v1 + d⟩)], [(KC, x)]) ∧
  workq_Queue_NextF (IntKind.i64.wrap (n + 1)) [(KC, ⟨IntKind.i64.wrap (n + 1), v1 + d⟩)] [(KC, x)] = (v1 + d, true) ∧
  workq_Queue_TakeF (IntKind.u64.wrap (v1 + d - 1)) (IntKind.i64.wrap (n + 1)) [(KC, ⟨IntKind.i64.wrap (n + 1), v1 + d⟩)] [(KC, x)] = ((⟨(0 : Int), (⟨#[]⟩ : ByteArray)⟩ : XKey), false, [(KC, ⟨IntKind.i64.wrap (n + 1), v1 + d⟩)]) ∧
  workq_Queue_TakeF (v1 + d) (IntKind.i64.wrap (n + 1)) [(KC, ⟨IntKind.i64.wrap (n + 1), v1 + d⟩)] [(KC, x)] = (KC, true, []) := by
 have hn := h.now
 obtain ⟨_, rfl, _, _, hf⟩ := h
 obtain ⟨d, x, h1, h2, h3, h4, e⟩ := fail_at (n := n) hn hf
 refine ⟨d, x, h1, h2, h3, h4, e, rfl, ?_, ?_⟩
 · unfold workq_Queue_TakeF firstF
   simp only [Bool.not_true, cond_false]
   rw [wrap_u64 (by omega) (by omega), decide_eq_true (by show v1 + d > v1 + d - 1; omega), cond_true]
 · unfold workq_Queue_TakeF firstF
   simp only [Bool.not_true, cond_false]
   rw [decide_eq_false (by show ¬ v1 + d > v1 + d; omega), cond_false]
   rfl
theorem tries_len2 {i : Nat} {v1 n t m : Int} {v5 : List (XKey × XSn)} {v6 f : List (XKey × Int)} (h : QI i v1 v5 v6) : (workq_Queue_TakeF t m (workq_Queue_FailF KC v1 n v5 v6).2.2.1 f).2.2.length ≤ 1 := take_len (tries_len1 h)
theorem qi_zero : QI 0 (0 : Int) (workq_NewF).2.1 (workq_NewF).2.2 := ⟨by decide, rfl, by decide, by decide, .inl rfl⟩
theorem tries_lt {i : Nat} {a : Int} (ha : 0 ≤ a ∧ a ≤ 255) (h : i < (IntKind.i64.wrap a).toNat) : i < 255 := by
 rw [wrap_i64 (by omega) (by omega)] at h
 omega
theorem tries_step {i : Nat} {v1 n : Int} {v5 : List (XKey × XSn)} {v6 : List (XKey × Int)} (h : QI i v1 v5 v6) (hi : i < 255) : QI (i + 1) (workq_Queue_NextF (workq_Queue_FailF KC v1 n v5 v6).2.1 (workq_Queue_FailF KC v1 n v5 v6).2.2.1 (workq_Queue_FailF KC v1 n v5 v6).2.2.2).1 (workq_Queue_TakeF (workq_Queue_NextF (workq_Queue_FailF KC v1 n v5 v6).2.1 (workq_Queue_FailF KC v1 n v5 v6).2.2.1 (workq_Queue_FailF KC v1 n v5 v6).2.2.2).1 (workq_Queue_FailF KC v1 n v5 v6).2.1 (workq_Queue_TakeF (IntKind.u64.wrap ((workq_Queue_NextF (workq_Queue_FailF KC v1 n v5 v6).2.1 (workq_Queue_FailF KC v1 n v5 v6).2.2.1 (workq_Queue_FailF KC v1 n v5 v6).2.2.2).1 - (1 : Int))) (workq_Queue_FailF KC v1 n v5 v6).2.1 (workq_Queue_FailF KC v1 n v5 v6).2.2.1 (workq_Queue_FailF KC v1 n v5 v6).2.2.2).2.2 (workq_Queue_FailF KC v1 n v5 v6).2.2.2).2.2 (workq_Queue_FailF KC v1 n v5 v6).2.2.2 := by
 obtain ⟨d, x, h1, h2, h3, h4, e1, e2, e3, e4⟩ := tries_round (n := n) h
 rw [e1]
 simp only
 rw [e2]
 simp only
 rw [e3]
 simp only
 rw [e4]
 obtain ⟨_, _, g1, g2, _⟩ := h
 refine ⟨by omega, rfl, by show (0 : Int) ≤ v1 + d; omega, by show v1 + d ≤ 64 * ((i + 1 : Nat) : Int); omega, .inr ⟨x, rfl, by omega, h4⟩⟩
end Go.Proofs.Ytbjifeobhenkfaa
