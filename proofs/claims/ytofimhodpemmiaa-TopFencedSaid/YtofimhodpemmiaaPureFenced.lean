/- Leases: TopFenced, the plain law. -/
import Derived.Test.YtofimhodpemmiaaFenced
import Derived.Test.YtofimhodpemmiaaEng19
namespace Go.Proofs.Ytofimhodpemmiaa
open Go Go.Eng
theorem fenced_true (n s : Int) (h1 : 0 ≤ n ∧ n ≤ 4294967295) (h2 : 0 ≤ s ∧ s ≤ 65535) : fencedF n s = true := by
  have ha : nameF (⟨#[97]⟩ : ByteArray) = true := by decide +kernel
  have hb : nameF (⟨#[98]⟩ : ByteArray) = true := by decide +kernel
  unfold fencedF
  rw [wrap_u64 (n := n) (by omega) (by omega), wrap_u64 (n := s) (by omega) (by omega), wrap_u64 (n := s + 1) (by omega) (by omega), wrap_u64 (n := n + (s + 1)) (by omega) (by omega), wrap_u64 (n := n + (s + 1) - 1) (by omega) (by omega)]
  have e1 : ¬ (n + (s + 1) - 1 ≥ n + (s + 1)) := by omega
  have c1 : s + 1 ≥ 1 := by omega
  have c2 : s + 1 ≤ 1099511627776 := by omega
  have c3 : n ≤ 1152921504606846976 := by omega
  have c4 : n + (s + 1) - 1 ≤ 1152921504606846976 := by omega
  have c5 : n + (s + 1) ≤ 1152921504606846976 := by omega
  have t1 : tryF (⟨#[]⟩ : ByteArray) 0 0 (⟨#[97]⟩ : ByteArray) n (s + 1) = (⟨#[97]⟩, n + (s + 1), 1, 0) := by
    have hw := wrap_u64 (n := n + (s + 1)) (by omega) (by omega)
    simp [tryF, ha, c1, c2, c3, hw]
    rfl
  have hne : ((⟨#[97]⟩ : ByteArray) = (⟨#[]⟩ : ByteArray)) = False := by simp
  have t2 : tryF (⟨#[97]⟩ : ByteArray) (n + (s + 1)) 1 (⟨#[98]⟩ : ByteArray) (n + (s + 1) - 1) (s + 1) = (⟨#[]⟩, 0, 0, 8) := by
    simp only [tryF, hb, c1, c2, c4, e1, decide_true, decide_false, cond_true]
    rfl
  have t3 : tryF (⟨#[97]⟩ : ByteArray) (n + (s + 1)) 1 (⟨#[98]⟩ : ByteArray) (n + (s + 1)) (s + 1) = (⟨#[98]⟩, n + (s + 1) + (s + 1), 2, 0) := by
    have hw := wrap_u64 (n := n + (s + 1) + (s + 1)) (by omega) (by omega)
    simp [tryF, hb, c1, c2, c5, hw]
    rfl
  rw [t1, t2, t3]
  have m1 : mineF (⟨#[97]⟩ : ByteArray) (n + (s + 1)) 1 (⟨#[97]⟩ : ByteArray) (n + (s + 1)) = false := by
    have : ¬ (n + (s + 1) > n + (s + 1)) := by omega
    simp only [mineF, this, decide_false, Bool.cond_self]
  have m2 : mineF (⟨#[98]⟩ : ByteArray) (n + (s + 1) + (s + 1)) 2 (⟨#[98]⟩ : ByteArray) (n + (s + 1)) = true := by
    have : n + (s + 1) + (s + 1) > n + (s + 1) := by omega
    simp only [mineF, this, decide_true]
    rfl
  simp [m1, m2, checkF, newgF]
end Go.Proofs.Ytofimhodpemmiaa
