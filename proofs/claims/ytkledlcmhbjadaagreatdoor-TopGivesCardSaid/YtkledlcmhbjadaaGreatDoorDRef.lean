/- Bind: names. -/
import Derived.Test.YtkledlcmhbjadaaGreatDoorDOf
set_option linter.unusedVariables false
set_option linter.unusedSimpArgs false
set_option maxRecDepth 100000
namespace Go.Proofs.YtkledlcmhbjadaaGreatDoor
open Go Go.Eng
noncomputable def E_bind_named : Env := envOf (P := Tryz.prog) [fmtU_fact] [] [] ckf
def bind_namedF (a0 : ByteArray) (a1 : XObj) : ByteArray :=
 cond (decide (((((a0 ++ a1.name) ++ (⟨#[35]⟩ : ByteArray)) ++ (fmtU a1.born)).size : Int) > (40 : Int)))
  (⟨#[]⟩ : ByteArray)
  (((a0 ++ a1.name) ++ (⟨#[35]⟩ : ByteArray)) ++ (fmtU a1.born))
def bind_namedR (a0 : ByteArray) (a1 : XObj) : RT :=
 (.need [a0.size + a1.name.size ≤ 9223372036854775807, (a0 ++ a1.name).size + (⟨#[35]⟩ : ByteArray).size ≤ 9223372036854775807, 0 ≤ a1.born ∧ a1.born ≤ 18446744073709551615, ((a0 ++ a1.name) ++ (⟨#[35]⟩ : ByteArray)).size + (fmtU a1.born).size ≤ 9223372036854775807]
   (.ask (decide (((((a0 ++ a1.name) ++ (⟨#[35]⟩ : ByteArray)) ++ (fmtU a1.born)).size : Int) > (40 : Int)))
     (.leaf .ret ⟨slots 19 [(4, .str (⟨#[]⟩ : ByteArray))], []⟩ [])
     (.leaf .ret ⟨slots 19 [(4, .str (((a0 ++ a1.name) ++ (⟨#[35]⟩ : ByteArray)) ++ (fmtU a1.born)))], []⟩ [])))
theorem bind_namedF_tr (a0 : ByteArray) (a1 : XObj) (hp0 : a0.size ≤ 64) (hp1 : a1.Fine) : Tr Tryz.prog 0 (bodyOf Tryz.f40) (fnBegins Tryz.f40 [.str a0, .agg (oc a1)] []) (fnEnds Tryz.prog Tryz.f40 (.str (bind_namedF a0 a1)) []) := by
 refine Tr_tree (kok _ _ _ _ _ _) (E := E_bind_named) (L := noLoops) 60 9999 LoopsOk.none (bind_namedR a0 a1) (by kernel_rfl) (by kernel_rfl) (by kernel_rfl) ?_
 unfold bind_namedR
 refine ⟨need_cons (by first | decide | (have hz := fmtU_size hp1.2.2.1; have hn := hp1.1; have hm := hp0; (try simp only [ByteArray.size_append, size_mk, List.size_toArray, List.length_cons, List.length_nil] at *); omega) | (split <;> omega) | (intros; split <;> omega)) (need_cons (by first | decide | (have hz := fmtU_size hp1.2.2.1; have hn := hp1.1; have hm := hp0; (try simp only [ByteArray.size_append, size_mk, List.size_toArray, List.length_cons, List.length_nil] at *); omega) | (split <;> omega) | (intros; split <;> omega)) (need_cons (by exact ⟨hp1.2.1, hp1.2.2.1⟩) (need_cons (by first | decide | (have hz := fmtU_size hp1.2.2.1; have hn := hp1.1; have hm := hp0; (try simp only [ByteArray.size_append, size_mk, List.size_toArray, List.length_cons, List.length_nil] at *); omega) | (split <;> omega) | (intros; split <;> omega)) (need_nil)))), ?_⟩
 refine ⟨fun h0 => ?_, fun h0 => ?_⟩
 · have hF : bind_namedF a0 a1 = (⟨#[]⟩ : ByteArray) := by first | exact (cond_t h0 rfl) | simp only [bind_namedF, h0, cond_true, cond_false]
   exact ⟨trivial, .inl (by first | (rw [hF]; kernel_rfl) | kernel_rfl), by first | (rw [hF]; kernel_rfl) | kernel_rfl⟩
 · have hF : bind_namedF a0 a1 = (((a0 ++ a1.name) ++ (⟨#[35]⟩ : ByteArray)) ++ (fmtU a1.born)) := by first | exact (cond_f h0 rfl) | simp only [bind_namedF, h0, cond_true, cond_false]
   exact ⟨trivial, .inl (by first | (rw [hF]; kernel_rfl) | kernel_rfl), by first | (rw [hF]; kernel_rfl) | kernel_rfl⟩
noncomputable def bind_named_fact : Fact Tryz.prog := factOf 40 Tryz.f40 (by kernel_rfl) rfl (by kernel_rfl) [.c (.str), .st .obj] [] true (fun t u => .str (bind_namedF t.1 t.2.1)) (fun t u => []) (fun t u => [t.1.size ≤ 64, t.2.1.Fine])
 (fun _ _ _ => rfl) (fun t u => by kernel_rfl) (fun t u => by kernel_rfl) (fun t u h => bind_namedF_tr t.1 t.2.1 (h _ List.mem_cons_self) (h _ (List.mem_cons_of_mem _ List.mem_cons_self)))
noncomputable def E_bind_Handle : Env := envOf (P := Tryz.prog) [bind_named_fact] [] [] ckf
def bind_HandleF (a0 : XObj) : ByteArray :=
 bind_namedF (⟨#[112, 118, 99, 47]⟩ : ByteArray) a0
def bind_HandleR (a0 : XObj) : RT :=
 (.need [(⟨#[112, 118, 99, 47]⟩ : ByteArray).size ≤ 64, a0.Fine]
   (.leaf .ret ⟨slots 5 [(2, .str (bind_namedF (⟨#[112, 118, 99, 47]⟩ : ByteArray) a0))], []⟩ []))
theorem bind_HandleF_tr (a0 : XObj) (hp0 : a0.Fine) : Tr Tryz.prog 0 (bodyOf Tryz.f15) (fnBegins Tryz.f15 [.agg (oc a0)] []) (fnEnds Tryz.prog Tryz.f15 (.str (bind_HandleF a0)) []) := by
 refine Tr_tree (kok _ _ _ _ _ _) (E := E_bind_Handle) (L := noLoops) 60 9999 LoopsOk.none (bind_HandleR a0) (by kernel_rfl) (by kernel_rfl) (by kernel_rfl) ?_
 unfold bind_HandleR
 refine ⟨need_cons (by first | decide | (have hz := fmtU_size hp0.2.2.1; have hn := hp0.1; have hm := hp0; (try simp only [ByteArray.size_append, size_mk, List.size_toArray, List.length_cons, List.length_nil] at *); omega) | (split <;> omega) | (intros; split <;> omega)) (need_cons (by first | assumption | exact hp0) (need_nil)), ?_⟩
 exact ⟨trivial, .inl (by kernel_rfl), by kernel_rfl⟩
noncomputable def bind_Handle_fact : Fact Tryz.prog := factOf 15 Tryz.f15 (by kernel_rfl) rfl (by kernel_rfl) [.st .obj] [] true (fun t u => .str (bind_HandleF t.1)) (fun t u => []) (fun t u => [t.1.Fine])
 (fun _ _ _ => rfl) (fun t u => by kernel_rfl) (fun t u => by kernel_rfl) (fun t u h => bind_HandleF_tr t.1 (h _ List.mem_cons_self))
noncomputable def E_bind_Ref : Env := envOf (P := Tryz.prog) [bind_Handle_fact] [] [] ckf
def bind_RefF (a0 : XObj) : ByteArray :=
 (bind_HandleF a0).extract ((if (4 : Int) < ((bind_HandleF a0).size : Int) then (4 : Int) else ((bind_HandleF a0).size : Int)).toNat) ((bind_HandleF a0).size)
def bind_RefR (a0 : XObj) : RT :=
 (.need [a0.Fine]
   (.need [0 ≤ (if (4 : Int) < ((bind_HandleF a0).size : Int) then (4 : Int) else ((bind_HandleF a0).size : Int)) ∧ (if (4 : Int) < ((bind_HandleF a0).size : Int) then (4 : Int) else ((bind_HandleF a0).size : Int)) ≤ ((bind_HandleF a0).size : Int) ∧ ((bind_HandleF a0).size : Int) ≤ ((bind_HandleF a0).size : Int)]
     (.leaf .ret ⟨slots 11 [(2, .str ((bind_HandleF a0).extract ((if (4 : Int) < ((bind_HandleF a0).size : Int) then (4 : Int) else ((bind_HandleF a0).size : Int)).toNat) ((bind_HandleF a0).size)))], []⟩ [])))
theorem bind_RefF_tr (a0 : XObj) (hp0 : a0.Fine) : Tr Tryz.prog 0 (bodyOf Tryz.f22) (fnBegins Tryz.f22 [.agg (oc a0)] []) (fnEnds Tryz.prog Tryz.f22 (.str (bind_RefF a0)) []) := by
 refine Tr_tree (kok _ _ _ _ _ _) (E := E_bind_Ref) (L := noLoops) 60 9999 LoopsOk.none (bind_RefR a0) (by kernel_rfl) (by kernel_rfl) (by kernel_rfl) ?_
 unfold bind_RefR
 refine ⟨need_cons (by first | assumption | exact hp0) (need_nil), ?_⟩
 refine ⟨need_cons (by first | decide | (have hz := fmtU_size hp0.2.2.1; have hn := hp0.1; have hm := hp0; (try simp only [ByteArray.size_append, size_mk, List.size_toArray, List.length_cons, List.length_nil] at *); omega) | (split <;> omega) | (intros; split <;> omega)) (need_nil), ?_⟩
 exact ⟨trivial, .inl (by kernel_rfl), by kernel_rfl⟩
noncomputable def bind_Ref_fact : Fact Tryz.prog := factOf 22 Tryz.f22 (by kernel_rfl) rfl (by kernel_rfl) [.st .obj] [] true (fun t u => .str (bind_RefF t.1)) (fun t u => []) (fun t u => [t.1.Fine])
 (fun _ _ _ => rfl) (fun t u => by kernel_rfl) (fun t u => by kernel_rfl) (fun t u h => bind_RefF_tr t.1 (h _ List.mem_cons_self))
end Go.Proofs.YtkledlcmhbjadaaGreatDoor
