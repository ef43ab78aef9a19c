/- Data: names; what belongs together. -/
import Derived.Test.YtondcpkhedjajaaDoorDGet
set_option linter.unusedVariables false
set_option linter.unusedSimpArgs false
set_option maxRecDepth 100000
namespace Go.Proofs.YtondcpkhedjajaaDoor
open Go Go.Eng
noncomputable def E_data_Handle : Env := envOf (P := Tryd.prog) [fmtU_fact] [] [] ckf
def data_HandleF (a0 : XObj) : ByteArray :=
  cond (decide ((((((⟨#[115, 110, 97, 112, 47]⟩ : ByteArray) ++ a0.name) ++ (⟨#[35]⟩ : ByteArray)) ++ (fmtU a0.born)).size : Int) ≤ (40 : Int)))
    ((((⟨#[115, 110, 97, 112, 47]⟩ : ByteArray) ++ a0.name) ++ (⟨#[35]⟩ : ByteArray)) ++ (fmtU a0.born))
    (⟨#[]⟩ : ByteArray)
def data_HandleR (a0 : XObj) : RT :=
  (.need [(⟨#[115, 110, 97, 112, 47]⟩ : ByteArray).size + a0.name.size ≤ 9223372036854775807, ((⟨#[115, 110, 97, 112, 47]⟩ : ByteArray) ++ a0.name).size + (⟨#[35]⟩ : ByteArray).size ≤ 9223372036854775807, 0 ≤ a0.born ∧ a0.born ≤ 18446744073709551615, (((⟨#[115, 110, 97, 112, 47]⟩ : ByteArray) ++ a0.name) ++ (⟨#[35]⟩ : ByteArray)).size + (fmtU a0.born).size ≤ 9223372036854775807]
    (.ask (decide ((((((⟨#[115, 110, 97, 112, 47]⟩ : ByteArray) ++ a0.name) ++ (⟨#[35]⟩ : ByteArray)) ++ (fmtU a0.born)).size : Int) ≤ (40 : Int)))
      (.leaf .ret ⟨slots 16 [(2, .str ((((⟨#[115, 110, 97, 112, 47]⟩ : ByteArray) ++ a0.name) ++ (⟨#[35]⟩ : ByteArray)) ++ (fmtU a0.born)))], []⟩ [])
      (.leaf .ret ⟨slots 16 [(2, .str (⟨#[]⟩ : ByteArray))], []⟩ [])))
theorem data_HandleF_tr (a0 : XObj) (hp0 : a0.Fine) : Tr Tryd.prog 0 (bodyOf Tryd.f16) (fnBegins Tryd.f16 [.agg [.int .u8 a0.kind, .str a0.name, .int .u64 a0.version, .int .u64 a0.born, .bool a0.deleting, .bool a0.hold, .str a0.cls, .int .i64 a0.size, .int .i64 a0.got, .int .u8 a0.mode, .bool a0.keep, .bool a0.wait, .str a0.zone, .str a0.node, .str a0.claim, .str a0.volume, .str a0.source, .int .u8 a0.phase, .int .u64 a0.num, .int .u64 a0.tag]] []) (fnEnds Tryd.prog Tryd.f16 (.str (data_HandleF a0)) []) := by
  refine Tr_tree (kok _ _ _ _ _) (E := E_data_Handle) (L := noLoops) 60 9999 LoopsOk.none (data_HandleR a0) (by kernel_rfl) (by kernel_rfl) (by kernel_rfl) ?_
  unfold data_HandleR
  refine ⟨need_cons (by have hz := fmtU_size hp0.2.2.1; have hn := hp0.1; simp only [ByteArray.size_append, size_mk, List.size_toArray, List.length_cons, List.length_nil]; omega) (need_cons (by have hz := fmtU_size hp0.2.2.1; have hn := hp0.1; simp only [ByteArray.size_append, size_mk, List.size_toArray, List.length_cons, List.length_nil]; omega) (need_cons (by exact ⟨hp0.2.1, hp0.2.2.1⟩) (need_cons (by have hz := fmtU_size hp0.2.2.1; have hn := hp0.1; simp only [ByteArray.size_append, size_mk, List.size_toArray, List.length_cons, List.length_nil]; omega) (need_nil)))), ?_⟩
  refine ⟨fun h0 => ?_, fun h0 => ?_⟩
  · have hF : data_HandleF a0 = (((⟨#[115, 110, 97, 112, 47]⟩ : ByteArray) ++ a0.name) ++ (⟨#[35]⟩ : ByteArray)) ++ (fmtU a0.born) := by first | exact (cond_t h0 rfl) | simp only [data_HandleF, h0, cond_true, cond_false]
    exact ⟨trivial, .inl (by first | (rw [hF]; kernel_rfl) | kernel_rfl), by first | (rw [hF]; kernel_rfl) | kernel_rfl⟩
  · have hF : data_HandleF a0 = (⟨#[]⟩ : ByteArray) := by first | exact (cond_f h0 rfl) | simp only [data_HandleF, h0, cond_true, cond_false]
    exact ⟨trivial, .inl (by first | (rw [hF]; kernel_rfl) | kernel_rfl), by first | (rw [hF]; kernel_rfl) | kernel_rfl⟩
noncomputable def data_Handle_fact : Fact Tryd.prog := factOf 16 Tryd.f16 (by kernel_rfl) rfl (by kernel_rfl) [.st .obj] [] true (fun t u => .str (data_HandleF t.1)) (fun t u => []) (fun t u => [t.1.Fine])
  (fun _ _ _ => rfl) (fun t u => by kernel_rfl) (fun t u => by kernel_rfl) (fun t u h => data_HandleF_tr t.1 (h _ List.mem_cons_self))
noncomputable def E_r14_Handle : Env := envOf (P := Tryd.prog) [fmtU_fact] [] [] ckf
def r14_HandleF (a0 : XObj) : ByteArray :=
  cond (decide ((((((⟨#[115, 110, 97, 112, 47]⟩ : ByteArray) ++ a0.name) ++ (⟨#[35]⟩ : ByteArray)) ++ (fmtU a0.born)).size : Int) > (40 : Int)))
    (⟨#[]⟩ : ByteArray)
    ((((⟨#[115, 110, 97, 112, 47]⟩ : ByteArray) ++ a0.name) ++ (⟨#[35]⟩ : ByteArray)) ++ (fmtU a0.born))
def r14_HandleR (a0 : XObj) : RT :=
  (.need [(⟨#[115, 110, 97, 112, 47]⟩ : ByteArray).size + a0.name.size ≤ 9223372036854775807, ((⟨#[115, 110, 97, 112, 47]⟩ : ByteArray) ++ a0.name).size + (⟨#[35]⟩ : ByteArray).size ≤ 9223372036854775807, 0 ≤ a0.born ∧ a0.born ≤ 18446744073709551615, (((⟨#[115, 110, 97, 112, 47]⟩ : ByteArray) ++ a0.name) ++ (⟨#[35]⟩ : ByteArray)).size + (fmtU a0.born).size ≤ 9223372036854775807]
    (.ask (decide ((((((⟨#[115, 110, 97, 112, 47]⟩ : ByteArray) ++ a0.name) ++ (⟨#[35]⟩ : ByteArray)) ++ (fmtU a0.born)).size : Int) > (40 : Int)))
      (.leaf .ret ⟨slots 16 [(2, .str (⟨#[]⟩ : ByteArray))], []⟩ [])
      (.leaf .ret ⟨slots 16 [(2, .str ((((⟨#[115, 110, 97, 112, 47]⟩ : ByteArray) ++ a0.name) ++ (⟨#[35]⟩ : ByteArray)) ++ (fmtU a0.born)))], []⟩ [])))
theorem r14_HandleF_tr (a0 : XObj) (hp0 : a0.Fine) : Tr Tryd.prog 0 (bodyOf Tryd.f17) (fnBegins Tryd.f17 [.agg [.int .u8 a0.kind, .str a0.name, .int .u64 a0.version, .int .u64 a0.born, .bool a0.deleting, .bool a0.hold, .str a0.cls, .int .i64 a0.size, .int .i64 a0.got, .int .u8 a0.mode, .bool a0.keep, .bool a0.wait, .str a0.zone, .str a0.node, .str a0.claim, .str a0.volume, .str a0.source, .int .u8 a0.phase, .int .u64 a0.num, .int .u64 a0.tag]] []) (fnEnds Tryd.prog Tryd.f17 (.str (r14_HandleF a0)) []) := by
  refine Tr_tree (kok _ _ _ _ _) (E := E_r14_Handle) (L := noLoops) 60 9999 LoopsOk.none (r14_HandleR a0) (by kernel_rfl) (by kernel_rfl) (by kernel_rfl) ?_
  unfold r14_HandleR
  refine ⟨need_cons (by have hz := fmtU_size hp0.2.2.1; have hn := hp0.1; simp only [ByteArray.size_append, size_mk, List.size_toArray, List.length_cons, List.length_nil]; omega) (need_cons (by have hz := fmtU_size hp0.2.2.1; have hn := hp0.1; simp only [ByteArray.size_append, size_mk, List.size_toArray, List.length_cons, List.length_nil]; omega) (need_cons (by exact ⟨hp0.2.1, hp0.2.2.1⟩) (need_cons (by have hz := fmtU_size hp0.2.2.1; have hn := hp0.1; simp only [ByteArray.size_append, size_mk, List.size_toArray, List.length_cons, List.length_nil]; omega) (need_nil)))), ?_⟩
  refine ⟨fun h0 => ?_, fun h0 => ?_⟩
  · have hF : r14_HandleF a0 = (⟨#[]⟩ : ByteArray) := by first | exact (cond_t h0 rfl) | simp only [r14_HandleF, h0, cond_true, cond_false]
    exact ⟨trivial, .inl (by first | (rw [hF]; kernel_rfl) | kernel_rfl), by first | (rw [hF]; kernel_rfl) | kernel_rfl⟩
  · have hF : r14_HandleF a0 = (((⟨#[115, 110, 97, 112, 47]⟩ : ByteArray) ++ a0.name) ++ (⟨#[35]⟩ : ByteArray)) ++ (fmtU a0.born) := by first | exact (cond_f h0 rfl) | simp only [r14_HandleF, h0, cond_true, cond_false]
    exact ⟨trivial, .inl (by first | (rw [hF]; kernel_rfl) | kernel_rfl), by first | (rw [hF]; kernel_rfl) | kernel_rfl⟩
noncomputable def r14_Handle_fact : Fact Tryd.prog := factOf 17 Tryd.f17 (by kernel_rfl) rfl (by kernel_rfl) [.st .obj] [] true (fun t u => .str (r14_HandleF t.1)) (fun t u => []) (fun t u => [t.1.Fine])
  (fun _ _ _ => rfl) (fun t u => by kernel_rfl) (fun t u => by kernel_rfl) (fun t u h => r14_HandleF_tr t.1 (h _ List.mem_cons_self))
noncomputable def E_data_bound : Env := envOf (P := Tryd.prog) [data_get_fact] [] [] ckf
def data_boundF (a0 : List XObj) (a1 : ByteArray) : XObj × XObj × Bool :=
  cond (cond (!((data_getF a0 (3 : Int) a1).2)) true (!((((data_getF a0 (3 : Int) a1).1).phase) == (3 : Int))))
    (((data_getF a0 (3 : Int) a1).1), (default : XObj), false)
    (((data_getF a0 (3 : Int) a1).1), ((data_getF a0 (4 : Int) (((data_getF a0 (3 : Int) a1).1).volume)).1), cond ((data_getF a0 (4 : Int) (((data_getF a0 (3 : Int) a1).1).volume)).2) ((((data_getF a0 (4 : Int) (((data_getF a0 (3 : Int) a1).1).volume)).1).phase) == (3 : Int)) false)
def data_boundR (a0 : List XObj) (a1 : ByteArray) : RT :=
  (.need [a0.length < 4611686018427387904]
    (.ask (cond (!((data_getF a0 (3 : Int) a1).2)) true (!((((data_getF a0 (3 : Int) a1).1).phase) == (3 : Int))))
      (.leaf .ret ⟨slots 37 [(4, .ptr 0 0), (5, .ptr 1 0), (6, .bool false)], [.cells 31 [.int .u8 (((data_getF a0 (3 : Int) a1).1).kind), .str (((data_getF a0 (3 : Int) a1).1).name), .int .u64 (((data_getF a0 (3 : Int) a1).1).version), .int .u64 (((data_getF a0 (3 : Int) a1).1).born), .bool (((data_getF a0 (3 : Int) a1).1).deleting), .bool (((data_getF a0 (3 : Int) a1).1).hold), .str (((data_getF a0 (3 : Int) a1).1).cls), .int .i64 (((data_getF a0 (3 : Int) a1).1).size), .int .i64 (((data_getF a0 (3 : Int) a1).1).got), .int .u8 (((data_getF a0 (3 : Int) a1).1).mode), .bool (((data_getF a0 (3 : Int) a1).1).keep), .bool (((data_getF a0 (3 : Int) a1).1).wait), .str (((data_getF a0 (3 : Int) a1).1).zone), .str (((data_getF a0 (3 : Int) a1).1).node), .str (((data_getF a0 (3 : Int) a1).1).claim), .str (((data_getF a0 (3 : Int) a1).1).volume), .str (((data_getF a0 (3 : Int) a1).1).source), .int .u8 (((data_getF a0 (3 : Int) a1).1).phase), .int .u64 (((data_getF a0 (3 : Int) a1).1).num), .int .u64 (((data_getF a0 (3 : Int) a1).1).tag)], .cells 31 [.int .u8 0, .str (⟨#[]⟩ : ByteArray), .int .u64 0, .int .u64 0, .bool false, .bool false, .str (⟨#[]⟩ : ByteArray), .int .i64 0, .int .i64 0, .int .u8 0, .bool false, .bool false, .str (⟨#[]⟩ : ByteArray), .str (⟨#[]⟩ : ByteArray), .str (⟨#[]⟩ : ByteArray), .str (⟨#[]⟩ : ByteArray), .str (⟨#[]⟩ : ByteArray), .int .u8 0, .int .u64 0, .int .u64 0]]⟩ [])
      (.need [a0.length < 4611686018427387904]
        (.leaf .ret ⟨slots 37 [(4, .ptr 0 0), (5, .ptr 1 0), (6, .bool (cond ((data_getF a0 (4 : Int) (((data_getF a0 (3 : Int) a1).1).volume)).2) ((((data_getF a0 (4 : Int) (((data_getF a0 (3 : Int) a1).1).volume)).1).phase) == (3 : Int)) false))], [.cells 31 [.int .u8 (((data_getF a0 (3 : Int) a1).1).kind), .str (((data_getF a0 (3 : Int) a1).1).name), .int .u64 (((data_getF a0 (3 : Int) a1).1).version), .int .u64 (((data_getF a0 (3 : Int) a1).1).born), .bool (((data_getF a0 (3 : Int) a1).1).deleting), .bool (((data_getF a0 (3 : Int) a1).1).hold), .str (((data_getF a0 (3 : Int) a1).1).cls), .int .i64 (((data_getF a0 (3 : Int) a1).1).size), .int .i64 (((data_getF a0 (3 : Int) a1).1).got), .int .u8 (((data_getF a0 (3 : Int) a1).1).mode), .bool (((data_getF a0 (3 : Int) a1).1).keep), .bool (((data_getF a0 (3 : Int) a1).1).wait), .str (((data_getF a0 (3 : Int) a1).1).zone), .str (((data_getF a0 (3 : Int) a1).1).node), .str (((data_getF a0 (3 : Int) a1).1).claim), .str (((data_getF a0 (3 : Int) a1).1).volume), .str (((data_getF a0 (3 : Int) a1).1).source), .int .u8 (((data_getF a0 (3 : Int) a1).1).phase), .int .u64 (((data_getF a0 (3 : Int) a1).1).num), .int .u64 (((data_getF a0 (3 : Int) a1).1).tag)], .cells 31 [.int .u8 (((data_getF a0 (4 : Int) (((data_getF a0 (3 : Int) a1).1).volume)).1).kind), .str (((data_getF a0 (4 : Int) (((data_getF a0 (3 : Int) a1).1).volume)).1).name), .int .u64 (((data_getF a0 (4 : Int) (((data_getF a0 (3 : Int) a1).1).volume)).1).version), .int .u64 (((data_getF a0 (4 : Int) (((data_getF a0 (3 : Int) a1).1).volume)).1).born), .bool (((data_getF a0 (4 : Int) (((data_getF a0 (3 : Int) a1).1).volume)).1).deleting), .bool (((data_getF a0 (4 : Int) (((data_getF a0 (3 : Int) a1).1).volume)).1).hold), .str (((data_getF a0 (4 : Int) (((data_getF a0 (3 : Int) a1).1).volume)).1).cls), .int .i64 (((data_getF a0 (4 : Int) (((data_getF a0 (3 : Int) a1).1).volume)).1).size), .int .i64 (((data_getF a0 (4 : Int) (((data_getF a0 (3 : Int) a1).1).volume)).1).got), .int .u8 (((data_getF a0 (4 : Int) (((data_getF a0 (3 : Int) a1).1).volume)).1).mode), .bool (((data_getF a0 (4 : Int) (((data_getF a0 (3 : Int) a1).1).volume)).1).keep), .bool (((data_getF a0 (4 : Int) (((data_getF a0 (3 : Int) a1).1).volume)).1).wait), .str (((data_getF a0 (4 : Int) (((data_getF a0 (3 : Int) a1).1).volume)).1).zone), .str (((data_getF a0 (4 : Int) (((data_getF a0 (3 : Int) a1).1).volume)).1).node), .str (((data_getF a0 (4 : Int) (((data_getF a0 (3 : Int) a1).1).volume)).1).claim), .str (((data_getF a0 (4 : Int) (((data_getF a0 (3 : Int) a1).1).volume)).1).volume), .str (((data_getF a0 (4 : Int) (((data_getF a0 (3 : Int) a1).1).volume)).1).source), .int .u8 (((data_getF a0 (4 : Int) (((data_getF a0 (3 : Int) a1).1).volume)).1).phase), .int .u64 (((data_getF a0 (4 : Int) (((data_getF a0 (3 : Int) a1).1).volume)).1).num), .int .u64 (((data_getF a0 (4 : Int) (((data_getF a0 (3 : Int) a1).1).volume)).1).tag)]]⟩ []))))
theorem data_boundF_tr (a0 : List XObj) (a1 : ByteArray) (hp0 : a0.length < 4611686018427387904) : Tr Tryd.prog 0 (bodyOf Tryd.f26) (fnBegins Tryd.f26 [.coll ⟨.obj, a0⟩, .str a1] []) (fnEnds Tryd.prog Tryd.f26 (.tup [.agg [.int .u8 (((data_boundF a0 a1).1).kind), .str (((data_boundF a0 a1).1).name), .int .u64 (((data_boundF a0 a1).1).version), .int .u64 (((data_boundF a0 a1).1).born), .bool (((data_boundF a0 a1).1).deleting), .bool (((data_boundF a0 a1).1).hold), .str (((data_boundF a0 a1).1).cls), .int .i64 (((data_boundF a0 a1).1).size), .int .i64 (((data_boundF a0 a1).1).got), .int .u8 (((data_boundF a0 a1).1).mode), .bool (((data_boundF a0 a1).1).keep), .bool (((data_boundF a0 a1).1).wait), .str (((data_boundF a0 a1).1).zone), .str (((data_boundF a0 a1).1).node), .str (((data_boundF a0 a1).1).claim), .str (((data_boundF a0 a1).1).volume), .str (((data_boundF a0 a1).1).source), .int .u8 (((data_boundF a0 a1).1).phase), .int .u64 (((data_boundF a0 a1).1).num), .int .u64 (((data_boundF a0 a1).1).tag)], .agg [.int .u8 (((data_boundF a0 a1).2.1).kind), .str (((data_boundF a0 a1).2.1).name), .int .u64 (((data_boundF a0 a1).2.1).version), .int .u64 (((data_boundF a0 a1).2.1).born), .bool (((data_boundF a0 a1).2.1).deleting), .bool (((data_boundF a0 a1).2.1).hold), .str (((data_boundF a0 a1).2.1).cls), .int .i64 (((data_boundF a0 a1).2.1).size), .int .i64 (((data_boundF a0 a1).2.1).got), .int .u8 (((data_boundF a0 a1).2.1).mode), .bool (((data_boundF a0 a1).2.1).keep), .bool (((data_boundF a0 a1).2.1).wait), .str (((data_boundF a0 a1).2.1).zone), .str (((data_boundF a0 a1).2.1).node), .str (((data_boundF a0 a1).2.1).claim), .str (((data_boundF a0 a1).2.1).volume), .str (((data_boundF a0 a1).2.1).source), .int .u8 (((data_boundF a0 a1).2.1).phase), .int .u64 (((data_boundF a0 a1).2.1).num), .int .u64 (((data_boundF a0 a1).2.1).tag)], .bool ((data_boundF a0 a1).2.2)]) []) := by
  refine Tr_tree (kok _ _ _ _ _) (E := E_data_bound) (L := noLoops) 60 9999 LoopsOk.none (data_boundR a0 a1) (by kernel_rfl) (by kernel_rfl) (by kernel_rfl) ?_
  unfold data_boundR
  refine ⟨need_cons (by first | (first | exact w14_world_lt _ _ (by decide) | (simp only [w14_world_len]; omega) | assumption | exact r12_Uniq_short _ (by first | assumption | exact w14_few_len _) | exact Nat.lt_of_le_of_lt (w14_few_len _) (by decide) | exact Nat.lt_of_le_of_lt (by assumption) (by decide) | decide | first | assumption | omega | (intro; omega) | (simp only [decide_eq_true_eq, decide_eq_false_iff_not, Bool.cond_false_right, Bool.cond_true_right, Bool.cond_true_left, Bool.cond_false_left, Bool.and_eq_true, Bool.or_eq_true, Bool.not_eq_true', bytesLim, maxLen, List.length_cons, List.length_nil, List.length_append, byteSize_lit] at *; omega) | (intro; simp only [decide_eq_true_eq, decide_eq_false_iff_not, Bool.cond_false_right, Bool.cond_true_right, Bool.cond_true_left, Bool.cond_false_left, Bool.and_eq_true, Bool.or_eq_true, Bool.not_eq_true', bytesLim, maxLen, List.length_cons, List.length_nil, List.length_append, byteSize_lit] at *; omega)) | (intro _; first | exact w14_world_lt _ _ (by decide) | (simp only [w14_world_len]; omega) | assumption | exact r12_Uniq_short _ (by first | assumption | exact w14_few_len _) | exact Nat.lt_of_le_of_lt (w14_few_len _) (by decide) | exact Nat.lt_of_le_of_lt (by assumption) (by decide) | decide | first | assumption | omega | (intro; omega) | (simp only [decide_eq_true_eq, decide_eq_false_iff_not, Bool.cond_false_right, Bool.cond_true_right, Bool.cond_true_left, Bool.cond_false_left, Bool.and_eq_true, Bool.or_eq_true, Bool.not_eq_true', bytesLim, maxLen, List.length_cons, List.length_nil, List.length_append, byteSize_lit] at *; omega) | (intro; simp only [decide_eq_true_eq, decide_eq_false_iff_not, Bool.cond_false_right, Bool.cond_true_right, Bool.cond_true_left, Bool.cond_false_left, Bool.and_eq_true, Bool.or_eq_true, Bool.not_eq_true', bytesLim, maxLen, List.length_cons, List.length_nil, List.length_append, byteSize_lit] at *; omega))) (need_nil), ?_⟩
  refine ⟨fun h0 => ?_, fun h0 => ?_⟩
  · have hF : data_boundF a0 a1 = (((data_getF a0 (3 : Int) a1).1), (default : XObj), false) := by first | exact (cond_t h0 rfl) | simp only [data_boundF, h0, cond_true, cond_false]
    exact ⟨trivial, .inl (by first | (rw [hF]; kernel_rfl) | kernel_rfl), by first | (rw [hF]; kernel_rfl) | kernel_rfl⟩
  · refine ⟨need_cons (by first | (first | exact w14_world_lt _ _ (by decide) | (simp only [w14_world_len]; omega) | assumption | exact r12_Uniq_short _ (by first | assumption | exact w14_few_len _) | exact Nat.lt_of_le_of_lt (w14_few_len _) (by decide) | exact Nat.lt_of_le_of_lt (by assumption) (by decide) | decide | first | assumption | omega | (intro; omega) | (simp only [decide_eq_true_eq, decide_eq_false_iff_not, Bool.cond_false_right, Bool.cond_true_right, Bool.cond_true_left, Bool.cond_false_left, Bool.and_eq_true, Bool.or_eq_true, Bool.not_eq_true', bytesLim, maxLen, List.length_cons, List.length_nil, List.length_append, byteSize_lit] at *; omega) | (intro; simp only [decide_eq_true_eq, decide_eq_false_iff_not, Bool.cond_false_right, Bool.cond_true_right, Bool.cond_true_left, Bool.cond_false_left, Bool.and_eq_true, Bool.or_eq_true, Bool.not_eq_true', bytesLim, maxLen, List.length_cons, List.length_nil, List.length_append, byteSize_lit] at *; omega)) | (intro _; first | exact w14_world_lt _ _ (by decide) | (simp only [w14_world_len]; omega) | assumption | exact r12_Uniq_short _ (by first | assumption | exact w14_few_len _) | exact Nat.lt_of_le_of_lt (w14_few_len _) (by decide) | exact Nat.lt_of_le_of_lt (by assumption) (by decide) | decide | first | assumption | omega | (intro; omega) | (simp only [decide_eq_true_eq, decide_eq_false_iff_not, Bool.cond_false_right, Bool.cond_true_right, Bool.cond_true_left, Bool.cond_false_left, Bool.and_eq_true, Bool.or_eq_true, Bool.not_eq_true', bytesLim, maxLen, List.length_cons, List.length_nil, List.length_append, byteSize_lit] at *; omega) | (intro; simp only [decide_eq_true_eq, decide_eq_false_iff_not, Bool.cond_false_right, Bool.cond_true_right, Bool.cond_true_left, Bool.cond_false_left, Bool.and_eq_true, Bool.or_eq_true, Bool.not_eq_true', bytesLim, maxLen, List.length_cons, List.length_nil, List.length_append, byteSize_lit] at *; omega))) (need_nil), ?_⟩
    have hF : data_boundF a0 a1 = (((data_getF a0 (3 : Int) a1).1), ((data_getF a0 (4 : Int) (((data_getF a0 (3 : Int) a1).1).volume)).1), cond ((data_getF a0 (4 : Int) (((data_getF a0 (3 : Int) a1).1).volume)).2) ((((data_getF a0 (4 : Int) (((data_getF a0 (3 : Int) a1).1).volume)).1).phase) == (3 : Int)) false) := by first | exact (cond_f h0 rfl) | simp only [data_boundF, h0, cond_true, cond_false]
    exact ⟨trivial, .inl (by first | (rw [hF]; kernel_rfl) | kernel_rfl), by first | (rw [hF]; kernel_rfl) | kernel_rfl⟩
noncomputable def data_bound_fact : Fact Tryd.prog := factOf 26 Tryd.f26 (by kernel_rfl) rfl (by kernel_rfl) [.c (.coll .obj), .c (.str)] [] true (fun t u => .tup [.agg [.int .u8 (((data_boundF t.1 t.2.1).1).kind), .str (((data_boundF t.1 t.2.1).1).name), .int .u64 (((data_boundF t.1 t.2.1).1).version), .int .u64 (((data_boundF t.1 t.2.1).1).born), .bool (((data_boundF t.1 t.2.1).1).deleting), .bool (((data_boundF t.1 t.2.1).1).hold), .str (((data_boundF t.1 t.2.1).1).cls), .int .i64 (((data_boundF t.1 t.2.1).1).size), .int .i64 (((data_boundF t.1 t.2.1).1).got), .int .u8 (((data_boundF t.1 t.2.1).1).mode), .bool (((data_boundF t.1 t.2.1).1).keep), .bool (((data_boundF t.1 t.2.1).1).wait), .str (((data_boundF t.1 t.2.1).1).zone), .str (((data_boundF t.1 t.2.1).1).node), .str (((data_boundF t.1 t.2.1).1).claim), .str (((data_boundF t.1 t.2.1).1).volume), .str (((data_boundF t.1 t.2.1).1).source), .int .u8 (((data_boundF t.1 t.2.1).1).phase), .int .u64 (((data_boundF t.1 t.2.1).1).num), .int .u64 (((data_boundF t.1 t.2.1).1).tag)], .agg [.int .u8 (((data_boundF t.1 t.2.1).2.1).kind), .str (((data_boundF t.1 t.2.1).2.1).name), .int .u64 (((data_boundF t.1 t.2.1).2.1).version), .int .u64 (((data_boundF t.1 t.2.1).2.1).born), .bool (((data_boundF t.1 t.2.1).2.1).deleting), .bool (((data_boundF t.1 t.2.1).2.1).hold), .str (((data_boundF t.1 t.2.1).2.1).cls), .int .i64 (((data_boundF t.1 t.2.1).2.1).size), .int .i64 (((data_boundF t.1 t.2.1).2.1).got), .int .u8 (((data_boundF t.1 t.2.1).2.1).mode), .bool (((data_boundF t.1 t.2.1).2.1).keep), .bool (((data_boundF t.1 t.2.1).2.1).wait), .str (((data_boundF t.1 t.2.1).2.1).zone), .str (((data_boundF t.1 t.2.1).2.1).node), .str (((data_boundF t.1 t.2.1).2.1).claim), .str (((data_boundF t.1 t.2.1).2.1).volume), .str (((data_boundF t.1 t.2.1).2.1).source), .int .u8 (((data_boundF t.1 t.2.1).2.1).phase), .int .u64 (((data_boundF t.1 t.2.1).2.1).num), .int .u64 (((data_boundF t.1 t.2.1).2.1).tag)], .bool ((data_boundF t.1 t.2.1).2.2)]) (fun t u => []) (fun t u => [t.1.length < 4611686018427387904])
  (fun _ _ _ => rfl) (fun t u => by kernel_rfl) (fun t u => by kernel_rfl) (fun t u h => data_boundF_tr t.1 t.2.1 (h _ List.mem_cons_self))
noncomputable def E_data_restored : Env := envOf (P := Tryd.prog) [] [] [] ckf
def data_restoredLF (a1 : ByteArray) : List XObj → List (ByteArray × Bool) → Bool
  | [], v4 => false
  | o :: r, v4 => cond (cond (!((o.kind) == (3 : Int))) true ((mget (k := .str) (v := .bool) v4 (o.name)).getD default))
    (data_restoredLF a1 r v4)
    (cond (cond ((o.phase) == (2 : Int)) (decide ((o.source) = a1)) false)
      true
      (data_restoredLF a1 r (mset (k := .str) (v := .bool) v4 (o.name) true)))
def data_restoredLS (a0 : List XObj) (a1 : ByteArray) (i : Nat) (v4 : List (ByteArray × Bool)) : St :=
  ⟨slots 37 [(1, .str a1), (5, .map 0), (9, .coll ⟨.obj, a0⟩), (10, .int .i64 (a0.length : Int)), (11, .int .i64 (i : Int))], [.map ⟨.str, .bool, v4⟩]⟩
def data_restoredLR (a0 : List XObj) (a1 : ByteArray) (i : Nat) (v4 : List (ByteArray × Bool)) : RT :=
  (.ask (decide ((i : Int) < (a0.length : Int)))
    (.need [0 ≤ (i : Int) ∧ (i : Int) < (a0.length : Int)]
      (.ask (cond (!(((a0.getD i default).kind) == (3 : Int))) true ((mget (k := .str) (v := .bool) v4 ((a0.getD i default).name)).getD default))
        (.leaf .normal ⟨slots 37 [(1, .str a1), (5, .map 0), (9, .coll ⟨.obj, a0⟩), (10, .int .i64 (a0.length : Int)), (11, .int .i64 (IntKind.i64.wrap ((i : Int) + (1 : Int))))], [.map ⟨.str, .bool, v4⟩]⟩ [])
        (.ask (cond (((a0.getD i default).phase) == (2 : Int)) (decide (((a0.getD i default).source) = a1)) false)
          (.leaf .ret ⟨slots 37 [(4, .bool true)], []⟩ [])
          (.leaf .normal ⟨slots 37 [(1, .str a1), (5, .map 0), (9, .coll ⟨.obj, a0⟩), (10, .int .i64 (a0.length : Int)), (11, .int .i64 (IntKind.i64.wrap ((i : Int) + (1 : Int))))], [.map ⟨.str, .bool, (mset (k := .str) (v := .bool) v4 ((a0.getD i default).name) true)⟩]⟩ []))))
    (.leaf (.exit 0) ⟨slots 37 [], []⟩ []))
def data_restoredLT (a0 : List XObj) (a1 : ByteArray) (i : Nat) (v4 : List (ByteArray × Bool)) : Tree :=
  .ask (data_restoredLF a1 (a0.drop i) v4) (.leaf .ret ⟨slots 37 [(4, .bool true)], []⟩) (.leaf (.exit 0) ⟨slots 37 [], []⟩)
theorem data_restoredL_loop (a0 : List XObj) (a1 : ByteArray) (hp0 : a0.length < 4611686018427387904) (hlen : a0.length < 4611686018427387904) (z : { z : Nat × (List (ByteArray × Bool)) // z.1 ≤ a0.length }) (Q : Exit → St → Prop) (h : (data_restoredLT a0 a1 z.1.1 z.1.2).All Q) : Tr Tryd.prog 0 (.loop (loopAt Tryd.f32 0)) (data_restoredLS a0 a1 z.1.1 z.1.2) Q := by
  refine Tr_loopT (kok _ _ _ _ _) (E := E_data_restored) (ι := { z : Nat × (List (ByteArray × Bool)) // z.1 ≤ a0.length }) 60 0 (fun _ => noLoops) (fun z => data_restoredLS a0 a1 z.1.1 z.1.2) (fun z => data_restoredLT a0 a1 z.1.1 z.1.2) (fun z => data_restoredLR a0 a1 z.1.1 z.1.2) (fun z => a0.length - z.1.1) (fun _ => LoopsOk.none) (fun z => by obtain ⟨⟨i, v4⟩, hi⟩ := z; kernel_rfl) (fun z => by obtain ⟨⟨i, v4⟩, hi⟩ := z; kernel_rfl) (fun z => by obtain ⟨⟨i, v4⟩, hi⟩ := z; kernel_rfl) ?_ z Q h
  rintro ⟨⟨i, v4⟩, hi⟩ Q hT
  replace hT : (data_restoredLT a0 a1 i v4).All Q := hT
  replace hi : i ≤ a0.length := hi
  show (data_restoredLR a0 a1 i v4).All _
  unfold data_restoredLR
  refine ⟨fun h0 => ?_, fun h0 => ?_⟩
  · have hlt : i < a0.length := by simpa using h0
    have hd := drop_getD hlt
    have hw := wrap_succ (i := i) (by omega)
    refine ⟨need_cons (by first | assumption | omega | (intro; omega) | (simp only [decide_eq_true_eq, decide_eq_false_iff_not, Bool.cond_false_right, Bool.cond_true_right, Bool.cond_true_left, Bool.cond_false_left, Bool.and_eq_true, Bool.or_eq_true, Bool.not_eq_true', bytesLim, maxLen, List.length_cons, List.length_nil, List.length_append, byteSize_lit] at *; omega) | (intro; simp only [decide_eq_true_eq, decide_eq_false_iff_not, Bool.cond_false_right, Bool.cond_true_right, Bool.cond_true_left, Bool.cond_false_left, Bool.and_eq_true, Bool.or_eq_true, Bool.not_eq_true', bytesLim, maxLen, List.length_cons, List.length_nil, List.length_append, byteSize_lit] at *; omega)) (need_nil), ?_⟩
    refine ⟨fun h1 => ?_, fun h1 => ?_⟩
    · have hF : data_restoredLF a1 (a0.drop i) v4 = data_restoredLF a1 (a0.drop (i + 1)) v4 := by rw [hd]; first | exact (cond_t h1 rfl) | simp only [data_restoredLF, h0, h1, cond_true, cond_false]
      refine ⟨⟨((i + 1), v4), by show (i + 1) ≤ a0.length; omega⟩, by show a0.length - (i + 1) < a0.length - i; omega, ?_, ?_⟩
      · show _ = data_restoredLS a0 a1 (i + 1) v4
        unfold data_restoredLS
        simp only [hw]
      · show (data_restoredLT a0 a1 (i + 1) v4).All Q
        unfold data_restoredLT at hT ⊢
        rw [hF] at hT
        exact hT
    · refine ⟨fun h2 => ?_, fun h2 => ?_⟩
      · have hF : data_restoredLF a1 (a0.drop i) v4 = true := by rw [hd]; first | exact (cond_f h1 (cond_t h2 rfl)) | simp only [data_restoredLF, h0, h1, h2, cond_true, cond_false]
        unfold data_restoredLT at hT
        rw [hF] at hT
        exact hT.1 rfl
      · have hF : data_restoredLF a1 (a0.drop i) v4 = data_restoredLF a1 (a0.drop (i + 1)) (mset (k := .str) (v := .bool) v4 ((a0.getD i default).name) true) := by rw [hd]; first | exact (cond_f h1 (cond_f h2 rfl)) | simp only [data_restoredLF, h0, h1, h2, cond_true, cond_false]
        refine ⟨⟨((i + 1), (mset (k := .str) (v := .bool) v4 ((a0.getD i default).name) true)), by show (i + 1) ≤ a0.length; omega⟩, by show a0.length - (i + 1) < a0.length - i; omega, ?_, ?_⟩
        · show _ = data_restoredLS a0 a1 (i + 1) (mset (k := .str) (v := .bool) v4 ((a0.getD i default).name) true)
          unfold data_restoredLS
          simp only [hw]
        · show (data_restoredLT a0 a1 (i + 1) (mset (k := .str) (v := .bool) v4 ((a0.getD i default).name) true)).All Q
          unfold data_restoredLT at hT ⊢
          rw [hF] at hT
          exact hT
  · have hge : ¬ i < a0.length := by simpa using h0
    have hd : a0.drop i = [] := List.drop_eq_nil_of_le (by omega)
    have hF : data_restoredLF a1 (a0.drop i) v4 = false := by rw [hd]; first | exact rfl | simp only [data_restoredLF, h0, cond_true, cond_false]
    unfold data_restoredLT at hT
    rw [hF] at hT
    exact hT.2 rfl
def data_restoredF (a0 : List XObj) (a1 : ByteArray) : Bool :=
  cond (data_restoredLF a1 a0 [])
    true
    false
def data_restoredR (a0 : List XObj) (a1 : ByteArray) : RT :=
  (.ask (data_restoredLF a1 a0 [])
    (.leaf .ret ⟨slots 37 [(4, .bool true)], []⟩ [])
    (.leaf .ret ⟨slots 37 [(4, .bool false)], []⟩ []))
theorem data_restoredF_tr (a0 : List XObj) (a1 : ByteArray) (hp0 : a0.length < 4611686018427387904) : Tr Tryd.prog 0 (bodyOf Tryd.f32) (fnBegins Tryd.f32 [.coll ⟨.obj, a0⟩, .str a1] []) (fnEnds Tryd.prog Tryd.f32 (.bool (data_restoredF a0 a1)) []) := by
  refine Tr_tree (kok _ _ _ _ _) (E := E_data_restored) (L := (loopsOf [(0, data_restoredLS a0 a1 0 [], [], data_restoredLT a0 a1 0 [])])) 60 9999 (LoopsOk.one (g := loopAt Tryd.f32 0) (b := 0) (by kernel_rfl) (by kernel_rfl) (by kernel_rfl) (by kernel_rfl) (fun Q h => data_restoredL_loop a0 a1 hp0 (by first | assumption | omega | (simp only [List.length_cons, List.length_nil, List.length_append]; omega)) ⟨(0, []), by first | exact Nat.zero_le _ | (show 0 ≤ a0.length; omega) | (show 0 ≤ a0.length; exact ⟨Nat.zero_le _, by assumption⟩) | (show 0 ≤ a0.length; simp)⟩ Q h)) (data_restoredR a0 a1) (by kernel_rfl) (by kernel_rfl) (by kernel_rfl) ?_
  unfold data_restoredR
  refine ⟨fun h0 => ?_, fun h0 => ?_⟩
  · have hF : data_restoredF a0 a1 = true := by first | exact (cond_t h0 rfl) | simp only [data_restoredF, h0, cond_true, cond_false]
    exact ⟨trivial, .inl (by first | (rw [hF]; kernel_rfl) | kernel_rfl), by first | (rw [hF]; kernel_rfl) | kernel_rfl⟩
  · have hF : data_restoredF a0 a1 = false := by first | exact (cond_f h0 rfl) | simp only [data_restoredF, h0, cond_true, cond_false]
    exact ⟨trivial, .inl (by first | (rw [hF]; kernel_rfl) | kernel_rfl), by first | (rw [hF]; kernel_rfl) | kernel_rfl⟩
noncomputable def data_restored_fact : Fact Tryd.prog := factOf 32 Tryd.f32 (by kernel_rfl) rfl (by kernel_rfl) [.c (.coll .obj), .c (.str)] [] true (fun t u => .bool (data_restoredF t.1 t.2.1)) (fun t u => []) (fun t u => [t.1.length < 4611686018427387904])
  (fun _ _ _ => rfl) (fun t u => by kernel_rfl) (fun t u => by kernel_rfl) (fun t u h => data_restoredF_tr t.1 t.2.1 (h _ List.mem_cons_self))
end Go.Proofs.YtondcpkhedjajaaDoor
