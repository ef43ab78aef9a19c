/- Data: plain laws: a claim that asks for more is served in four steps. -/
import Derived.Test.YtondcpkhedjajaaDoorDPL3
import Derived.Test.YtondcpkhedjajaaDoorDLawG
set_option linter.unusedVariables false
set_option linter.unusedSimpArgs false
set_option maxRecDepth 100000
namespace Go.Proofs.YtondcpkhedjajaaDoor
open Go Go.Eng
abbrev sC (n got : Int) : XObj := ⟨3, ⟨#[99]⟩, 0, 0, false, false, ⟨#[102]⟩, n, got, 1, false, false, ⟨#[]⟩, ⟨#[]⟩, ⟨#[]⟩, ⟨#[118]⟩, ⟨#[]⟩, 3, 0, 0⟩
abbrev sV (size got num : Int) : XObj := ⟨4, ⟨#[118]⟩, 0, 0, false, false, ⟨#[102]⟩, size, got, 1, false, false, ⟨#[122]⟩, ⟨#[]⟩, ⟨#[99, 35, 49]⟩, ⟨#[]⟩, ⟨#[]⟩, 3, num, 0⟩
abbrev sS : XObj := ⟨7, ⟨#[115]⟩, 0, 3, false, false, ⟨#[]⟩, 0, 0, 0, false, false, ⟨#[]⟩, ⟨#[]⟩, ⟨#[]⟩, ⟨#[]⟩, ⟨#[99]⟩, 1, 0, 0⟩
theorem world_is (n g : Int) : w14_worldF n g = [sC n g, sV 4 4 0, sS] := rfl
theorem s_bound (n g a b c : Int) : data_boundF [sC n g, sV a b c, sS] ⟨#[99]⟩ = (sC n g, sV a b c, true) := by kernel_rfl
theorem s_get (n g a b c : Int) : data_getF [sC n g, sV a b c, sS] 4 ⟨#[118]⟩ = (sV a b c, true) := by kernel_rfl
theorem step1 (n ver : Int) (h : 5 ≤ n) : data_ClaimF [sC n 4, sV 4 4 0, sS] ver ⟨#[99]⟩ = ⟨1, sV n 4 (IntKind.u64.wrap (ver + 1)), default⟩ := by
  unfold data_ClaimF
  simp only [s_bound]
  have h1 : ¬ (4 : Int) ≥ n := by omega
  have h2 : n > (4 : Int) := by omega
  simp [h1, h2]
theorem step2 (n m ver : Int) (h : 5 ≤ n) (hm : m ≠ 0) : data_ClaimF [sC n 4, sV n 4 m, sS] ver ⟨#[99]⟩ = ⟨3, default, ⟨5, ⟨#[118]⟩, m, n, ⟨#[]⟩, ⟨#[]⟩, ⟨#[]⟩⟩⟩ := by
  unfold data_ClaimF
  simp only [s_bound]
  have h1 : ¬ (4 : Int) ≥ n := by omega
  have h3 : (m == 0) = false := by simpa using hm
  simp [h1, h3]
theorem step3 (n m ver t : Int) (w : ByteArray) (h : 5 ≤ n) (hm : m ≠ 0) : data_AfterF [sC n 4, sV n 4 m, sS] ver ⟨3, ⟨#[99]⟩⟩ ⟨5, ⟨#[118]⟩, m, n, ⟨#[]⟩, ⟨#[]⟩, ⟨#[]⟩⟩ ⟨0, n, w, t⟩ = ⟨1, sV n n 0, default⟩ := by
  unfold data_AfterF
  simp only [step2 n m ver h hm, s_get]
  simp
theorem step4 (n ver : Int) (h : 5 ≤ n) : data_ClaimF [sC n 4, sV n n 0, sS] ver ⟨#[99]⟩ = ⟨1, sC n n, default⟩ := by
  unfold data_ClaimF
  simp only [s_bound]
  have h1 : ((4 : Int) == n) = false := by simpa using (by omega : ¬ (4 : Int) = n)
  simp [h1]
theorem step5 (n ver : Int) : data_ClaimF [sC n n, sV n n 0, sS] ver ⟨#[99]⟩ = default := by
  unfold data_ClaimF
  simp only [s_bound]
  simp
theorem dataStep (s v : Int) (h1 : 0 ≤ s) (h2 : s ≤ 4294967295) (h3 : 0 ≤ v) (h4 : v ≤ 4294967295) : w14_DataStepF s v = true := by
  unfold w14_DataStepF
  have e0 : IntKind.i64.wrap s = s := wrap_i64 (by omega) (by omega)
  have e1 : IntKind.i64.wrap (s + 5) = s + 5 := wrap_i64 (by omega) (by omega)
  have w0 : IntKind.u64.wrap v = v := wrap_u64 h3 (by omega)
  have w1 : IntKind.u64.wrap (v + 1) = v + 1 := wrap_u64 (by omega) (by omega)
  have w2 : IntKind.u64.wrap (v + 2) = v + 2 := wrap_u64 (by omega) (by omega)
  have w3 : IntKind.u64.wrap (v + 3) = v + 3 := wrap_u64 (by omega) (by omega)
  have hn : 5 ≤ s + 5 := by omega
  have hm : v + 1 ≠ 0 := by omega
  simp only [e0, e1, w0, w1, w2, w3, data_Claim_2_eq, data_After_2_eq, world_is, List.set_cons_succ, List.set_cons_zero, List.getD_cons_zero, List.getD_cons_succ]
  generalize s + 5 = n at hn
  simp only [step1 n _ hn, w1, List.set_cons_succ, List.set_cons_zero, step2 n _ _ hn hm, step3 n _ _ _ _ hn hm, step4 n _ hn, step5]
  rw [live_true]
  simp
  decide
end Go.Proofs.YtondcpkhedjajaaDoor
