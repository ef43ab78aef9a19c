/- Bind: names. -/
import Derived.Test.YtkledlcmhbjadaaGreatDoorDOf
set_option linter.unusedVariables false
set_option linter.unusedSimpArgs false
set_option maxRecDepth 100000
namespace Go.Proofs.YtkledlcmhbjadaaGreatDoor
open Go Go.Eng
noncomputable def E_bind_named : Env := Z57 (P := Tryz.prog) [fmtU_fact] [] [] ckf
def Z90 (a0 : ByteArray) (a1 : XObj) : ByteArray :=
 cond (decide (((((a0 ++ a1.name) ++ (⟨#[35]⟩ : ByteArray)) ++ (fmtU a1.born)).size : Int) > (40 : Int)))
  (⟨#[]⟩ : ByteArray)
  (((a0 ++ a1.name) ++ (⟨#[35]⟩ : ByteArray)) ++ (fmtU a1.born))
def bind_namedR (a0 : ByteArray) (a1 : XObj) : RT :=
 (.need [a0.size + a1.name.size ≤ 9223372036854775807, (a0 ++ a1.name).size + (⟨#[35]⟩ : ByteArray).size ≤ 9223372036854775807, 0 ≤ a1.born ∧ a1.born ≤ 18446744073709551615, ((a0 ++ a1.name) ++ (⟨#[35]⟩ : ByteArray)).size + (fmtU a1.born).size ≤ 9223372036854775807]
   (.ask (decide (((((a0 ++ a1.name) ++ (⟨#[35]⟩ : ByteArray)) ++ (fmtU a1.born)).size : Int) > (40 : Int)))
     (.leaf .ret ⟨Z9 19 [(4, .str (⟨#[]⟩ : ByteArray))], []⟩ [])
     (.leaf .ret ⟨Z9 19 [(4, .str (((a0 ++ a1.name) ++ (⟨#[35]⟩ : ByteArray)) ++ (fmtU a1.born)))], []⟩ [])))
theorem bind_namedF_tr (a0 : ByteArray) (a1 : XObj) (hp0 : a0.size ≤ 64) (hp1 : a1.Fine) : Tr Tryz.prog 0 (Z3a Tryz.f40) (Z1f Tryz.f40 [.str a0, .agg (oc a1)] []) (Z4a Tryz.prog Tryz.f40 (.str (Z90 a0 a1)) []) := by
 refine Z20 (kok _ _ _ _ _ _) (E := E_bind_named) (L := Z2a) 60 9999 Z14.none (bind_namedR a0 a1) (by kernel_rfl) (by kernel_rfl) (by kernel_rfl) ?_
 unfold bind_namedR
 refine ⟨Z6 (by first | decide | (have hz := Zd9 hp1.2.2.1; have hn := hp1.1; have hm := hp0; (try simp only [ByteArray.size_append, Z4e, List.size_toArray, List.length_cons, List.length_nil] at *); omega) | (split <;> omega) | (intros; split <;> omega)) (Z6 (by first | decide | (have hz := Zd9 hp1.2.2.1; have hn := hp1.1; have hm := hp0; (try simp only [ByteArray.size_append, Z4e, List.size_toArray, List.length_cons, List.length_nil] at *); omega) | (split <;> omega) | (intros; split <;> omega)) (Z6 (by exact ⟨hp1.2.1, hp1.2.2.1⟩) (Z6 (by first | decide | (have hz := Zd9 hp1.2.2.1; have hn := hp1.1; have hm := hp0; (try simp only [ByteArray.size_append, Z4e, List.size_toArray, List.length_cons, List.length_nil] at *); omega) | (split <;> omega) | (intros; split <;> omega)) (Z10)))), ?_⟩
 refine ⟨fun h0 => ?_, fun h0 => ?_⟩
 · have hF : Z90 a0 a1 = (⟨#[]⟩ : ByteArray) := by first | exact (Zb h0 rfl) | simp only [Z90, h0, cond_true, cond_false]
   exact ⟨trivial, .inl (by first | (rw [hF]; kernel_rfl) | kernel_rfl), by first | (rw [hF]; kernel_rfl) | kernel_rfl⟩
 · have hF : Z90 a0 a1 = (((a0 ++ a1.name) ++ (⟨#[35]⟩ : ByteArray)) ++ (fmtU a1.born)) := by first | exact (Z5 h0 rfl) | simp only [Z90, h0, cond_true, cond_false]
   exact ⟨trivial, .inl (by first | (rw [hF]; kernel_rfl) | kernel_rfl), by first | (rw [hF]; kernel_rfl) | kernel_rfl⟩
noncomputable def bind_named_fact : Fact Tryz.prog := Z50 40 Tryz.f40 (by kernel_rfl) rfl (by kernel_rfl) [.c (.str), .st .obj] [] true (fun t u => .str (Z90 t.1 t.2.1)) (fun t u => []) (fun t u => [t.1.size ≤ 64, t.2.1.Fine])
 (fun _ _ _ => rfl) (fun t u => by kernel_rfl) (fun t u => by kernel_rfl) (fun t u h => bind_namedF_tr t.1 t.2.1 (h _ List.mem_cons_self) (h _ (List.mem_cons_of_mem _ List.mem_cons_self)))
noncomputable def E_bind_Handle : Env := Z57 (P := Tryz.prog) [bind_named_fact] [] [] ckf
def Z2c (a0 : XObj) : ByteArray :=
 Z90 (⟨#[112, 118, 99, 47]⟩ : ByteArray) a0
def Z262 (a0 : XObj) : RT :=
 (.need [(⟨#[112, 118, 99, 47]⟩ : ByteArray).size ≤ 64, a0.Fine]
   (.leaf .ret ⟨Z9 5 [(2, .str (Z90 (⟨#[112, 118, 99, 47]⟩ : ByteArray) a0))], []⟩ []))
theorem bind_HandleF_tr (a0 : XObj) (hp0 : a0.Fine) : Tr Tryz.prog 0 (Z3a Tryz.f15) (Z1f Tryz.f15 [.agg (oc a0)] []) (Z4a Tryz.prog Tryz.f15 (.str (Z2c a0)) []) := by
 refine Z20 (kok _ _ _ _ _ _) (E := E_bind_Handle) (L := Z2a) 60 9999 Z14.none (Z262 a0) (by kernel_rfl) (by kernel_rfl) (by kernel_rfl) ?_
 unfold Z262
 refine ⟨Z6 (by first | decide | (have hz := Zd9 hp0.2.2.1; have hn := hp0.1; have hm := hp0; (try simp only [ByteArray.size_append, Z4e, List.size_toArray, List.length_cons, List.length_nil] at *); omega) | (split <;> omega) | (intros; split <;> omega)) (Z6 (by first | assumption | exact hp0) (Z10)), ?_⟩
 exact ⟨trivial, .inl (by kernel_rfl), by kernel_rfl⟩
noncomputable def Za1 : Fact Tryz.prog := Z50 15 Tryz.f15 (by kernel_rfl) rfl (by kernel_rfl) [.st .obj] [] true (fun t u => .str (Z2c t.1)) (fun t u => []) (fun t u => [t.1.Fine])
 (fun _ _ _ => rfl) (fun t u => by kernel_rfl) (fun t u => by kernel_rfl) (fun t u h => bind_HandleF_tr t.1 (h _ List.mem_cons_self))
noncomputable def E_bind_Ref : Env := Z57 (P := Tryz.prog) [Za1] [] [] ckf
def Z5d (a0 : XObj) : ByteArray :=
 (Z2c a0).extract ((if (4 : Int) < ((Z2c a0).size : Int) then (4 : Int) else ((Z2c a0).size : Int)).toNat) ((Z2c a0).size)
def bind_RefR (a0 : XObj) : RT :=
 (.need [a0.Fine]
   (.need [0 ≤ (if (4 : Int) < ((Z2c a0).size : Int) then (4 : Int) else ((Z2c a0).size : Int)) ∧ (if (4 : Int) < ((Z2c a0).size : Int) then (4 : Int) else ((Z2c a0).size : Int)) ≤ ((Z2c a0).size : Int) ∧ ((Z2c a0).size : Int) ≤ ((Z2c a0).size : Int)]
     (.leaf .ret ⟨Z9 11 [(2, .str ((Z2c a0).extract ((if (4 : Int) < ((Z2c a0).size : Int) then (4 : Int) else ((Z2c a0).size : Int)).toNat) ((Z2c a0).size)))], []⟩ [])))
theorem bind_RefF_tr (a0 : XObj) (hp0 : a0.Fine) : Tr Tryz.prog 0 (Z3a Tryz.f22) (Z1f Tryz.f22 [.agg (oc a0)] []) (Z4a Tryz.prog Tryz.f22 (.str (Z5d a0)) []) := by
 refine Z20 (kok _ _ _ _ _ _) (E := E_bind_Ref) (L := Z2a) 60 9999 Z14.none (bind_RefR a0) (by kernel_rfl) (by kernel_rfl) (by kernel_rfl) ?_
 unfold bind_RefR
 refine ⟨Z6 (by first | assumption | exact hp0) (Z10), ?_⟩
 refine ⟨Z6 (by first | decide | (have hz := Zd9 hp0.2.2.1; have hn := hp0.1; have hm := hp0; (try simp only [ByteArray.size_append, Z4e, List.size_toArray, List.length_cons, List.length_nil] at *); omega) | (split <;> omega) | (intros; split <;> omega)) (Z10), ?_⟩
 exact ⟨trivial, .inl (by kernel_rfl), by kernel_rfl⟩
noncomputable def Zf9 : Fact Tryz.prog := Z50 22 Tryz.f22 (by kernel_rfl) rfl (by kernel_rfl) [.st .obj] [] true (fun t u => .str (Z5d t.1)) (fun t u => []) (fun t u => [t.1.Fine])
 (fun _ _ _ => rfl) (fun t u => by kernel_rfl) (fun t u => by kernel_rfl) (fun t u h => bind_RefF_tr t.1 (h _ List.mem_cons_self))
end Go.Proofs.YtkledlcmhbjadaaGreatDoor
