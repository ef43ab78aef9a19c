/- The queue. -/
import Derived.Test.YtbjifeobhenkfaaDFirstC
import Derived.Test.YtbjifeobhenkfaaDUser
import Derived.Test.YtbjifeobhenkfaaDH3
set_option linter.unusedVariables false
set_option linter.unusedSimpArgs false
set_option maxRecDepth 100000
namespace Go.Proofs.Ytbjifeobhenkfaa
open Go Go.Eng
noncomputable def E_workq_New : Env := envOf (P := Try.prog) [] [] [] ckf
def workq_NewF  : Int × (List (XKey × XSn)) × (List (XKey × Int)) :=
 ((0 : Int), [], [])
def workq_NewR  : RT :=
 (.leaf .ret ⟨slots 5 [(0, .ptr 0 0)], [.cells 70 [.map 1, .map 2, .int .i64 0], .map ⟨.key, .sn, []⟩, .map ⟨.key, .int .i64, []⟩]⟩ [2, 0, 1])
theorem workq_NewF_tr   : Tr Try.prog 0 (bodyOf Try.f7) (fnBegins Try.f7 [] []) (fnEnds Try.prog Try.f7 (.ptr 0 0) [.cells 70 [.map 1, .map 2, .int .i64 ((workq_NewF).1)], .map ⟨.key, .sn, (workq_NewF).2.1⟩, .map ⟨.key, .int .i64, (workq_NewF).2.2⟩]) := by
 refine Tr_tree (kok _ _ _ _ _ _) (E := E_workq_New) (L := noLoops) 60 9999 LoopsOk.none (workq_NewR ) (by kernel_rfl) (by kernel_rfl) (by kernel_rfl) ?_
 unfold workq_NewR
 exact ⟨trivial, .inl (by kernel_rfl), by kernel_rfl⟩
noncomputable def workq_New_fact : Fact Try.prog := factOf 7 Try.f7 (by kernel_rfl) rfl (by kernel_rfl) [] [] false (fun t u => .ptr 0 0) (fun t u => [.cells 70 [.map 1, .map 2, .int .i64 ((workq_NewF).1)], .map ⟨.key, .sn, (workq_NewF).2.1⟩, .map ⟨.key, .int .i64, (workq_NewF).2.2⟩]) (fun t u => [])
 (nofun) (fun t u => by kernel_rfl) (fun t u => by kernel_rfl) (fun t u h => workq_NewF_tr  )
noncomputable def E_workq_Delay : Env := envOf (P := Try.prog) [] [] [] ckf
def workq_DelayF (a0 : Int) : Int :=
 cond (decide (a0 ≤ (0 : Int)))
  (0 : Int)
  (shlI .u64 (1 : Int) (if (6 : Int) < (IntKind.i64.wrap (a0 - (1 : Int))) then (6 : Int) else (IntKind.i64.wrap (a0 - (1 : Int)))))
def workq_DelayR (a0 : Int) : RT :=
 (.ask (decide (a0 ≤ (0 : Int)))
   (.leaf .ret ⟨slots 9 [(2, .int .u64 0)], []⟩ [])
   (.need [0 ≤ (if (6 : Int) < (IntKind.i64.wrap (a0 - (1 : Int))) then (6 : Int) else (IntKind.i64.wrap (a0 - (1 : Int))))]
     (.leaf .ret ⟨slots 9 [(2, .int .u64 (shlI .u64 (1 : Int) (if (6 : Int) < (IntKind.i64.wrap (a0 - (1 : Int))) then (6 : Int) else (IntKind.i64.wrap (a0 - (1 : Int))))))], []⟩ [])))
theorem workq_DelayF_tr (a0 : Int) (hp0 : a0 ≤ 40) : Tr Try.prog 0 (bodyOf Try.f29) (fnBegins Try.f29 [.int .i64 a0] []) (fnEnds Try.prog Try.f29 (.int .u64 (workq_DelayF a0)) []) := by
 refine Tr_tree (kok _ _ _ _ _ _) (E := E_workq_Delay) (L := noLoops) 60 9999 LoopsOk.none (workq_DelayR a0) (by kernel_rfl) (by kernel_rfl) (by kernel_rfl) ?_
 unfold workq_DelayR
 refine ⟨fun h0 => ?_, fun h0 => ?_⟩
 · have hF : workq_DelayF a0 = (0 : Int) := by first | exact (cond_t h0 rfl) | simp only [workq_DelayF, h0, cond_true, cond_false]
   exact ⟨trivial, .inl (by first | (rw [hF]; kernel_rfl) | kernel_rfl), by first | (rw [hF]; kernel_rfl) | kernel_rfl⟩
 · refine ⟨need_cons (by (try refine fun (_ : _ = _) => ?_); (try refine fun (_ : _ ∧ _) => ?_); exact delay_need (of_decide_eq_false h0) hp0) (need_nil), ?_⟩
   have hF : workq_DelayF a0 = (shlI .u64 (1 : Int) (if (6 : Int) < (IntKind.i64.wrap (a0 - (1 : Int))) then (6 : Int) else (IntKind.i64.wrap (a0 - (1 : Int))))) := by first | exact (cond_f h0 rfl) | simp only [workq_DelayF, h0, cond_true, cond_false]
   exact ⟨trivial, .inl (by first | (rw [hF]; kernel_rfl) | kernel_rfl), by first | (rw [hF]; kernel_rfl) | kernel_rfl⟩
noncomputable def workq_Delay_fact : Fact Try.prog := factOf 29 Try.f29 (by kernel_rfl) rfl (by kernel_rfl) [.c (.int .i64)] [] true (fun t u => .int .u64 (workq_DelayF t.1)) (fun t u => []) (fun t u => [t.1 ≤ 40])
 (fun _ _ _ => rfl) (fun t u => by kernel_rfl) (fun t u => by kernel_rfl) (fun t u h => workq_DelayF_tr t.1 (h _ List.mem_cons_self))
noncomputable def E_workq_Queue_Fail_1 : Env := envOf (P := Try.prog) [workq_Delay_fact] [] [] ckf
def workq_Queue_Fail_1F (b1 : XKey) (b2 : Int) (b3_2 : Int) (b4 : List (XKey × XSn)) (b5 : List (XKey × Int)) : Int × (List (XKey × Int)) :=
 ((IntKind.u64.wrap (b2 + (if (bitsI .xor .u64 (if IntKind.signed .u64 then -1 else IntKind.max .u64) b2) < (workq_DelayF (if (40 : Int) < (IntKind.i64.wrap (((mget (k := .key) (v := (.int .i64)) b5 b1).getD default) + (1 : Int))) then (40 : Int) else (IntKind.i64.wrap (((mget (k := .key) (v := (.int .i64)) b5 b1).getD default) + (1 : Int))))) then (bitsI .xor .u64 (if IntKind.signed .u64 then -1 else IntKind.max .u64) b2) else (workq_DelayF (if (40 : Int) < (IntKind.i64.wrap (((mget (k := .key) (v := (.int .i64)) b5 b1).getD default) + (1 : Int))) then (40 : Int) else (IntKind.i64.wrap (((mget (k := .key) (v := (.int .i64)) b5 b1).getD default) + (1 : Int)))))))), (mset (k := .key) (v := (.int .i64)) b5 b1 (if (40 : Int) < (IntKind.i64.wrap (((mget (k := .key) (v := (.int .i64)) b5 b1).getD default) + (1 : Int))) then (40 : Int) else (IntKind.i64.wrap (((mget (k := .key) (v := (.int .i64)) b5 b1).getD default) + (1 : Int))))))
def workq_Queue_Fail_1R (b1 : XKey) (b2 : Int) (b3_2 : Int) (b4 : List (XKey × XSn)) (b5 : List (XKey × Int)) : RT :=
 (.need [(if (40 : Int) < (IntKind.i64.wrap (((mget (k := .key) (v := (.int .i64)) b5 b1).getD default) + (1 : Int))) then (40 : Int) else (IntKind.i64.wrap (((mget (k := .key) (v := (.int .i64)) b5 b1).getD default) + (1 : Int)))) ≤ 40]
   (.leaf .ret ⟨slots 26 [(3, .int .u64 (IntKind.u64.wrap (b2 + (if (bitsI .xor .u64 (if IntKind.signed .u64 then -1 else IntKind.max .u64) b2) < (workq_DelayF (if (40 : Int) < (IntKind.i64.wrap (((mget (k := .key) (v := (.int .i64)) b5 b1).getD default) + (1 : Int))) then (40 : Int) else (IntKind.i64.wrap (((mget (k := .key) (v := (.int .i64)) b5 b1).getD default) + (1 : Int))))) then (bitsI .xor .u64 (if IntKind.signed .u64 then -1 else IntKind.max .u64) b2) else (workq_DelayF (if (40 : Int) < (IntKind.i64.wrap (((mget (k := .key) (v := (.int .i64)) b5 b1).getD default) + (1 : Int))) then (40 : Int) else (IntKind.i64.wrap (((mget (k := .key) (v := (.int .i64)) b5 b1).getD default) + (1 : Int)))))))))], [.cells 22 [.ptr 3 0], .cells 26 [.int .u8 b1.kind, .str b1.name], .cells 27 [.int .u64 b2], .cells 70 [.map 4, .map 5, .int .i64 b3_2], .map ⟨.key, .sn, b4⟩, .map ⟨.key, .int .i64, (mset (k := .key) (v := (.int .i64)) b5 b1 (if (40 : Int) < (IntKind.i64.wrap (((mget (k := .key) (v := (.int .i64)) b5 b1).getD default) + (1 : Int))) then (40 : Int) else (IntKind.i64.wrap (((mget (k := .key) (v := (.int .i64)) b5 b1).getD default) + (1 : Int)))))⟩]⟩ []))
theorem workq_Queue_Fail_1F_tr (b1 : XKey) (b2 : Int) (b3_2 : Int) (b4 : List (XKey × XSn)) (b5 : List (XKey × Int))  : Tr Try.prog 6 (bodyOf Try.f28) (fnBegins Try.f28 [.ptr 0 0, .ptr 1 0, .ptr 2 0] [.cells 22 [.ptr 3 0], .cells 26 [.int .u8 b1.kind, .str b1.name], .cells 27 [.int .u64 b2], .cells 70 [.map 4, .map 5, .int .i64 b3_2], .map ⟨.key, .sn, b4⟩, .map ⟨.key, .int .i64, b5⟩]) (fnEnds Try.prog Try.f28 (.int .u64 ((workq_Queue_Fail_1F b1 b2 b3_2 b4 b5).1)) [.cells 22 [.ptr 3 0], .cells 26 [.int .u8 b1.kind, .str b1.name], .cells 27 [.int .u64 b2], .cells 70 [.map 4, .map 5, .int .i64 b3_2], .map ⟨.key, .sn, b4⟩, .map ⟨.key, .int .i64, (workq_Queue_Fail_1F b1 b2 b3_2 b4 b5).2⟩]) := by
 refine Tr_tree (kok _ _ _ _ _ _) (E := E_workq_Queue_Fail_1) (L := noLoops) 60 9999 LoopsOk.none (workq_Queue_Fail_1R b1 b2 b3_2 b4 b5) (by kernel_rfl) (by kernel_rfl) (by kernel_rfl) ?_
 unfold workq_Queue_Fail_1R
 refine ⟨need_cons (by (try refine fun (_ : _ = _) => ?_); (try refine fun (_ : _ ∧ _) => ?_); (split <;> omega)) (need_nil), ?_⟩
 exact ⟨trivial, .inl (by kernel_rfl), by kernel_rfl⟩
noncomputable def workq_Queue_Fail_1_fact0 : Fact Try.prog := factOf 28 Try.f28 (by kernel_rfl) rfl (by kernel_rfl) [.c (.ptr 0 0), .c (.ptr 1 0), .c (.ptr 2 0)] [.cells 22 [.ptr 3 0], .st 26 .key, .cells 27 [.int .u64], .cells 70 [.map 4, .map 5, .int .i64], .map .key .sn, .map .key (.int .i64)] false (fun t u => .int .u64 ((workq_Queue_Fail_1F u.2.1 u.2.2.1.1 u.2.2.2.1.2.2.1 u.2.2.2.2.1 u.2.2.2.2.2.1).1)) (fun t u => [.cells 22 [.ptr 3 0], .cells 26 [.int .u8 u.2.1.kind, .str u.2.1.name], .cells 27 [.int .u64 u.2.2.1.1], .cells 70 [.map 4, .map 5, .int .i64 u.2.2.2.1.2.2.1], .map ⟨.key, .sn, u.2.2.2.2.1⟩, .map ⟨.key, .int .i64, (workq_Queue_Fail_1F u.2.1 u.2.2.1.1 u.2.2.2.1.2.2.1 u.2.2.2.2.1 u.2.2.2.2.2.1).2⟩]) (fun t u => [])
 (nofun) (fun t u => by kernel_rfl) (fun t u => by kernel_rfl) (fun t u h => workq_Queue_Fail_1F_tr u.2.1 u.2.2.1.1 u.2.2.2.1.2.2.1 u.2.2.2.2.1 u.2.2.2.2.2.1 )
noncomputable def workq_Queue_Fail_1_fact : Fact Try.prog := factThin workq_Queue_Fail_1_fact0 [.c (.ptr 0 0), .c (.ptr 1 0), .c (.ptr 2 0)] [.cells 22 [.ptr 3 0], .st 26 .key, .cells 27 [.int .u64], .cells 70 [.map 4, .map 5, .int .i64], .map .key .sn, .map .key (.int .i64)] (fun t u => .int .u64 ((workq_Queue_Fail_1F u.2.1 u.2.2.1.1 u.2.2.2.1.2.2.1 u.2.2.2.2.1 u.2.2.2.2.2.1).1)) (fun t u => [.cells 22 [.ptr 3 0], .cells 26 [.int .u8 u.2.1.kind, .str u.2.1.name], .cells 27 [.int .u64 u.2.2.1.1], .cells 70 [.map 4, .map 5, .int .i64 u.2.2.2.1.2.2.1], .map ⟨.key, .sn, u.2.2.2.2.1⟩, .map ⟨.key, .int .i64, (workq_Queue_Fail_1F u.2.1 u.2.2.1.1 u.2.2.2.1.2.2.1 u.2.2.2.2.1 u.2.2.2.2.2.1).2⟩]) (fun t u => []) rfl [0, 1, 2, 3, 4] (by
 intro t u k hk
 simp only [List.mem_cons, List.not_mem_nil, or_false] at hk
 rcases hk with rfl | rfl | rfl | rfl | rfl
 all_goals exact ⟨by decide, rfl⟩)
noncomputable def E_workq_Queue_put : Env := envOf (P := Try.prog) [workq_Queue_Fail_1_fact] [] [] ckf
def workq_Queue_putF (a1 : XKey) (b0_2 : Int) (b2 : XKey) (b3 : Int) (b4 : List (XKey × XSn)) (b5 : List (XKey × Int)) : Int × Int × (List (XKey × XSn)) × (List (XKey × Int)) :=
 cond (!((mget (k := .key) (v := .sn) b4 a1).isSome))
   (cond (decide ((b4.length : Int) ≥ (256 : Int)))
     ((7 : Int), b0_2, b4, b5)
     ((0 : Int), (IntKind.i64.wrap (b0_2 + (1 : Int))), (mset (k := .key) (v := .sn) b4 a1 (⟨(IntKind.i64.wrap (b0_2 + (1 : Int))), ((workq_Queue_Fail_1F b2 b3 (IntKind.i64.wrap (b0_2 + (1 : Int))) b4 b5).1)⟩ : XSn)), (workq_Queue_Fail_1F b2 b3 (IntKind.i64.wrap (b0_2 + (1 : Int))) b4 b5).2))
   ((0 : Int), b0_2, (mset (k := .key) (v := .sn) b4 a1 (⟨(((mget (k := .key) (v := .sn) b4 a1).getD default).size), ((workq_Queue_Fail_1F b2 b3 b0_2 b4 b5).1)⟩ : XSn)), (workq_Queue_Fail_1F b2 b3 b0_2 b4 b5).2)
def workq_Queue_putR (a1 : XKey) (b0_2 : Int) (b2 : XKey) (b3 : Int) (b4 : List (XKey × XSn)) (b5 : List (XKey × Int)) : RT :=
 (.ask false
   .fail
   (.ask (!((mget (k := .key) (v := .sn) b4 a1).isSome))
     (.ask (decide ((b4.length : Int) ≥ (256 : Int)))
       (.leaf .ret ⟨slots 49 [(6, .int .i64 7)], [.cells 70 [.map 4, .map 5, .int .i64 b0_2], .cells 22 [.ptr 0 0], .cells 26 [.int .u8 b2.kind, .str b2.name], .cells 27 [.int .u64 b3], .map ⟨.key, .sn, b4⟩, .map ⟨.key, .int .i64, b5⟩]⟩ [])
       (.leaf .ret ⟨slots 49 [(6, .int .i64 0)], [.cells 70 [.map 4, .map 5, .int .i64 (IntKind.i64.wrap (b0_2 + (1 : Int)))], .cells 22 [.ptr 0 0], .cells 26 [.int .u8 b2.kind, .str b2.name], .cells 27 [.int .u64 b3], .map ⟨.key, .sn, (mset (k := .key) (v := .sn) b4 a1 (⟨(IntKind.i64.wrap (b0_2 + (1 : Int))), ((workq_Queue_Fail_1F b2 b3 (IntKind.i64.wrap (b0_2 + (1 : Int))) b4 b5).1)⟩ : XSn))⟩, .map ⟨.key, .int .i64, (workq_Queue_Fail_1F b2 b3 (IntKind.i64.wrap (b0_2 + (1 : Int))) b4 b5).2⟩]⟩ []))
     (.leaf .ret ⟨slots 49 [(6, .int .i64 0)], [.cells 70 [.map 4, .map 5, .int .i64 b0_2], .cells 22 [.ptr 0 0], .cells 26 [.int .u8 b2.kind, .str b2.name], .cells 27 [.int .u64 b3], .map ⟨.key, .sn, (mset (k := .key) (v := .sn) b4 a1 (⟨(((mget (k := .key) (v := .sn) b4 a1).getD default).size), ((workq_Queue_Fail_1F b2 b3 b0_2 b4 b5).1)⟩ : XSn))⟩, .map ⟨.key, .int .i64, (workq_Queue_Fail_1F b2 b3 b0_2 b4 b5).2⟩]⟩ [])))
theorem workq_Queue_putF_tr (a1 : XKey) (b0_2 : Int) (b2 : XKey) (b3 : Int) (b4 : List (XKey × XSn)) (b5 : List (XKey × Int))  : Tr Try.prog 6 (bodyOf Try.f27) (fnBegins Try.f27 [.ptr 0 0, .agg [.int .u8 a1.kind, .str a1.name], .fn 28 [.ptr 1 0, .ptr 2 0, .ptr 3 0]] [.cells 70 [.map 4, .map 5, .int .i64 b0_2], .cells 22 [.ptr 0 0], .cells 26 [.int .u8 b2.kind, .str b2.name], .cells 27 [.int .u64 b3], .map ⟨.key, .sn, b4⟩, .map ⟨.key, .int .i64, b5⟩]) (fnEnds Try.prog Try.f27 (.int .i64 ((workq_Queue_putF a1 b0_2 b2 b3 b4 b5).1)) [.cells 70 [.map 4, .map 5, .int .i64 ((workq_Queue_putF a1 b0_2 b2 b3 b4 b5).2.1)], .cells 22 [.ptr 0 0], .cells 26 [.int .u8 b2.kind, .str b2.name], .cells 27 [.int .u64 b3], .map ⟨.key, .sn, (workq_Queue_putF a1 b0_2 b2 b3 b4 b5).2.2.1⟩, .map ⟨.key, .int .i64, (workq_Queue_putF a1 b0_2 b2 b3 b4 b5).2.2.2⟩]) := by
 refine Tr_tree (kok _ _ _ _ _ _) (E := E_workq_Queue_put) (L := noLoops) 60 9999 LoopsOk.none (workq_Queue_putR a1 b0_2 b2 b3 b4 b5) (by kernel_rfl) (by kernel_rfl) (by kernel_rfl) ?_
 unfold workq_Queue_putR
 refine ⟨fun h0 => ?_, fun h0 => ?_⟩
 · exact absurd h0 (by simp)
 · refine ⟨fun h1 => ?_, fun h1 => ?_⟩
   · refine ⟨fun h2 => ?_, fun h2 => ?_⟩
     · have hF : workq_Queue_putF a1 b0_2 b2 b3 b4 b5 = ((7 : Int), b0_2, b4, b5) := by first | exact (cond_t h1 (cond_t h2 rfl)) | simp only [workq_Queue_putF, h0, h1, h2, cond_true, cond_false]
       exact ⟨trivial, .inl (by first | (rw [hF]; kernel_rfl) | kernel_rfl), by first | (rw [hF]; kernel_rfl) | kernel_rfl⟩
     · have hF : workq_Queue_putF a1 b0_2 b2 b3 b4 b5 = ((0 : Int), (IntKind.i64.wrap (b0_2 + (1 : Int))), (mset (k := .key) (v := .sn) b4 a1 (⟨(IntKind.i64.wrap (b0_2 + (1 : Int))), ((workq_Queue_Fail_1F b2 b3 (IntKind.i64.wrap (b0_2 + (1 : Int))) b4 b5).1)⟩ : XSn)), (workq_Queue_Fail_1F b2 b3 (IntKind.i64.wrap (b0_2 + (1 : Int))) b4 b5).2) := by first | exact (cond_t h1 (cond_f h2 rfl)) | simp only [workq_Queue_putF, h0, h1, h2, cond_true, cond_false]
       exact ⟨trivial, .inl (by first | (rw [hF]; kernel_rfl) | kernel_rfl), by first | (rw [hF]; kernel_rfl) | kernel_rfl⟩
   · have hF : workq_Queue_putF a1 b0_2 b2 b3 b4 b5 = ((0 : Int), b0_2, (mset (k := .key) (v := .sn) b4 a1 (⟨(((mget (k := .key) (v := .sn) b4 a1).getD default).size), ((workq_Queue_Fail_1F b2 b3 b0_2 b4 b5).1)⟩ : XSn)), (workq_Queue_Fail_1F b2 b3 b0_2 b4 b5).2) := by first | exact (cond_f h1 rfl) | simp only [workq_Queue_putF, h0, h1, cond_true, cond_false]
     exact ⟨trivial, .inl (by first | (rw [hF]; kernel_rfl) | kernel_rfl), by first | (rw [hF]; kernel_rfl) | kernel_rfl⟩
noncomputable def workq_Queue_put_fact0 : Fact Try.prog := factOf 27 Try.f27 (by kernel_rfl) rfl (by kernel_rfl) [.c (.ptr 0 0), .st .key, .fn 28 [.ptr 1 0, .ptr 2 0, .ptr 3 0]] [.cells 70 [.map 4, .map 5, .int .i64], .cells 22 [.ptr 0 0], .st 26 .key, .cells 27 [.int .u64], .map .key .sn, .map .key (.int .i64)] false (fun t u => .int .i64 ((workq_Queue_putF t.2.1 u.1.2.2.1 u.2.2.1 u.2.2.2.1.1 u.2.2.2.2.1 u.2.2.2.2.2.1).1)) (fun t u => [.cells 70 [.map 4, .map 5, .int .i64 ((workq_Queue_putF t.2.1 u.1.2.2.1 u.2.2.1 u.2.2.2.1.1 u.2.2.2.2.1 u.2.2.2.2.2.1).2.1)], .cells 22 [.ptr 0 0], .cells 26 [.int .u8 u.2.2.1.kind, .str u.2.2.1.name], .cells 27 [.int .u64 u.2.2.2.1.1], .map ⟨.key, .sn, (workq_Queue_putF t.2.1 u.1.2.2.1 u.2.2.1 u.2.2.2.1.1 u.2.2.2.2.1 u.2.2.2.2.2.1).2.2.1⟩, .map ⟨.key, .int .i64, (workq_Queue_putF t.2.1 u.1.2.2.1 u.2.2.1 u.2.2.2.1.1 u.2.2.2.2.1 u.2.2.2.2.2.1).2.2.2⟩]) (fun t u => [])
 (nofun) (fun t u => by kernel_rfl) (fun t u => by kernel_rfl) (fun t u h => workq_Queue_putF_tr t.2.1 u.1.2.2.1 u.2.2.1 u.2.2.2.1.1 u.2.2.2.2.1 u.2.2.2.2.2.1 )
noncomputable def workq_Queue_put_fact : Fact Try.prog := factThin workq_Queue_put_fact0 [.c (.ptr 0 0), .st .key, .fn 28 [.ptr 1 0, .ptr 2 0, .ptr 3 0]] [.cells 70 [.map 4, .map 5, .int .i64], .cells 22 [.ptr 0 0], .st 26 .key, .cells 27 [.int .u64], .map .key .sn, .map .key (.int .i64)] (fun t u => .int .i64 ((workq_Queue_putF t.2.1 u.1.2.2.1 u.2.2.1 u.2.2.2.1.1 u.2.2.2.2.1 u.2.2.2.2.2.1).1)) (fun t u => [.cells 70 [.map 4, .map 5, .int .i64 ((workq_Queue_putF t.2.1 u.1.2.2.1 u.2.2.1 u.2.2.2.1.1 u.2.2.2.2.1 u.2.2.2.2.2.1).2.1)], .cells 22 [.ptr 0 0], .cells 26 [.int .u8 u.2.2.1.kind, .str u.2.2.1.name], .cells 27 [.int .u64 u.2.2.2.1.1], .map ⟨.key, .sn, (workq_Queue_putF t.2.1 u.1.2.2.1 u.2.2.1 u.2.2.2.1.1 u.2.2.2.2.1 u.2.2.2.2.2.1).2.2.1⟩, .map ⟨.key, .int .i64, (workq_Queue_putF t.2.1 u.1.2.2.1 u.2.2.1 u.2.2.2.1.1 u.2.2.2.2.1 u.2.2.2.2.2.1).2.2.2⟩]) (fun t u => []) rfl [1, 2, 3] (by
 intro t u k hk
 simp only [List.mem_cons, List.not_mem_nil, or_false] at hk
 rcases hk with rfl | rfl | rfl
 all_goals exact ⟨by decide, rfl⟩)
noncomputable def E_workq_Queue_Fail : Env := envOf (P := Try.prog) [workq_Queue_put_fact] [] [] ckf
def workq_Queue_FailF (a1 : XKey) (a2 : Int) (b0_2 : Int) (b1 : List (XKey × XSn)) (b2 : List (XKey × Int)) : Int × Int × (List (XKey × XSn)) × (List (XKey × Int)) :=
 (((workq_Queue_putF a1 b0_2 a1 a2 b1 b2).1), ((workq_Queue_putF a1 b0_2 a1 a2 b1 b2).2.1), (workq_Queue_putF a1 b0_2 a1 a2 b1 b2).2.2.1, (workq_Queue_putF a1 b0_2 a1 a2 b1 b2).2.2.2)
def workq_Queue_FailR (a1 : XKey) (a2 : Int) (b0_2 : Int) (b1 : List (XKey × XSn)) (b2 : List (XKey × Int)) : RT :=
 (.leaf .ret ⟨slots 11 [(6, .int .i64 ((workq_Queue_putF a1 b0_2 a1 a2 b1 b2).1))], [.cells 70 [.map 1, .map 2, .int .i64 ((workq_Queue_putF a1 b0_2 a1 a2 b1 b2).2.1)], .map ⟨.key, .sn, (workq_Queue_putF a1 b0_2 a1 a2 b1 b2).2.2.1⟩, .map ⟨.key, .int .i64, (workq_Queue_putF a1 b0_2 a1 a2 b1 b2).2.2.2⟩]⟩ [])
theorem workq_Queue_FailF_tr (a1 : XKey) (a2 : Int) (b0_2 : Int) (b1 : List (XKey × XSn)) (b2 : List (XKey × Int))  : Tr Try.prog 3 (bodyOf Try.f8) (fnBegins Try.f8 [.ptr 0 0, .agg [.int .u8 a1.kind, .str a1.name], .int .u64 a2] [.cells 70 [.map 1, .map 2, .int .i64 b0_2], .map ⟨.key, .sn, b1⟩, .map ⟨.key, .int .i64, b2⟩]) (fnEnds Try.prog Try.f8 (.int .i64 ((workq_Queue_FailF a1 a2 b0_2 b1 b2).1)) [.cells 70 [.map 1, .map 2, .int .i64 ((workq_Queue_FailF a1 a2 b0_2 b1 b2).2.1)], .map ⟨.key, .sn, (workq_Queue_FailF a1 a2 b0_2 b1 b2).2.2.1⟩, .map ⟨.key, .int .i64, (workq_Queue_FailF a1 a2 b0_2 b1 b2).2.2.2⟩]) := by
 refine Tr_tree (kok _ _ _ _ _ _) (E := E_workq_Queue_Fail) (L := noLoops) 60 9999 LoopsOk.none (workq_Queue_FailR a1 a2 b0_2 b1 b2) (by kernel_rfl) (by kernel_rfl) (by kernel_rfl) ?_
 unfold workq_Queue_FailR
 exact ⟨trivial, .inl (by kernel_rfl), by kernel_rfl⟩
noncomputable def workq_Queue_Fail_fact : Fact Try.prog := factOf 8 Try.f8 (by kernel_rfl) rfl (by kernel_rfl) [.c (.ptr 0 0), .st .key, .c (.int .u64)] [.cells 70 [.map 1, .map 2, .int .i64], .map .key .sn, .map .key (.int .i64)] false (fun t u => .int .i64 ((workq_Queue_FailF t.2.1 t.2.2.1 u.1.2.2.1 u.2.1 u.2.2.1).1)) (fun t u => [.cells 70 [.map 1, .map 2, .int .i64 ((workq_Queue_FailF t.2.1 t.2.2.1 u.1.2.2.1 u.2.1 u.2.2.1).2.1)], .map ⟨.key, .sn, (workq_Queue_FailF t.2.1 t.2.2.1 u.1.2.2.1 u.2.1 u.2.2.1).2.2.1⟩, .map ⟨.key, .int .i64, (workq_Queue_FailF t.2.1 t.2.2.1 u.1.2.2.1 u.2.1 u.2.2.1).2.2.2⟩]) (fun t u => [])
 (nofun) (fun t u => by kernel_rfl) (fun t u => by kernel_rfl) (fun t u h => workq_Queue_FailF_tr t.2.1 t.2.2.1 u.1.2.2.1 u.2.1 u.2.2.1 )
noncomputable def E_workq_Queue_Next : Env := envOf (P := Try.prog) [workq_Queue_first_fact] [] [] ckf
def workq_Queue_NextF (b0_2 : Int) (b1 : List (XKey × XSn)) (b2 : List (XKey × Int)) : Int × Bool :=
 ((((firstF b0_2 b1 b2).2.1).tag), (firstF b0_2 b1 b2).2.2)
def workq_Queue_NextR (b0_2 : Int) (b1 : List (XKey × XSn)) (b2 : List (XKey × Int)) : RT :=
 (.need [b1.length ≤ 1]
   (.leaf .ret ⟨slots 16 [(2, .int .u64 (((firstF b0_2 b1 b2).2.1).tag)), (3, .bool ((firstF b0_2 b1 b2).2.2))], [.cells 70 [.map 1, .map 2, .int .i64 b0_2], .map ⟨.key, .sn, b1⟩, .map ⟨.key, .int .i64, b2⟩]⟩ []))
theorem workq_Queue_NextF_tr (b0_2 : Int) (b1 : List (XKey × XSn)) (b2 : List (XKey × Int)) (hp0 : b1.length ≤ 1) : Tr Try.prog 3 (bodyOf Try.f9) (fnBegins Try.f9 [.ptr 0 0] [.cells 70 [.map 1, .map 2, .int .i64 b0_2], .map ⟨.key, .sn, b1⟩, .map ⟨.key, .int .i64, b2⟩]) (fnEnds Try.prog Try.f9 (.tup [.int .u64 ((workq_Queue_NextF b0_2 b1 b2).1), .bool ((workq_Queue_NextF b0_2 b1 b2).2)]) [.cells 70 [.map 1, .map 2, .int .i64 b0_2], .map ⟨.key, .sn, b1⟩, .map ⟨.key, .int .i64, b2⟩]) := by
 refine Tr_tree (kok _ _ _ _ _ _) (E := E_workq_Queue_Next) (L := noLoops) 60 9999 LoopsOk.none (workq_Queue_NextR b0_2 b1 b2) (by kernel_rfl) (by kernel_rfl) (by kernel_rfl) ?_
 unfold workq_Queue_NextR
 refine ⟨need_cons (by first | assumption | omega | (intro; omega) | (simp only [decide_eq_true_eq, decide_eq_false_iff_not, Bool.cond_false_right, Bool.cond_true_right, Bool.cond_true_left, Bool.cond_false_left, Bool.and_eq_true, Bool.or_eq_true, Bool.not_eq_true', bytesLim, maxLen, List.length_cons, List.length_nil, List.length_append, byteSize_lit] at *; omega) | (intro; simp only [decide_eq_true_eq, decide_eq_false_iff_not, Bool.cond_false_right, Bool.cond_true_right, Bool.cond_true_left, Bool.cond_false_left, Bool.and_eq_true, Bool.or_eq_true, Bool.not_eq_true', bytesLim, maxLen, List.length_cons, List.length_nil, List.length_append, byteSize_lit] at *; omega)) (need_nil), ?_⟩
 exact ⟨trivial, .inl (by kernel_rfl), by kernel_rfl⟩
noncomputable def workq_Queue_Next_fact : Fact Try.prog := factOf 9 Try.f9 (by kernel_rfl) rfl (by kernel_rfl) [.c (.ptr 0 0)] [.cells 70 [.map 1, .map 2, .int .i64], .map .key .sn, .map .key (.int .i64)] true (fun t u => .tup [.int .u64 ((workq_Queue_NextF u.1.2.2.1 u.2.1 u.2.2.1).1), .bool ((workq_Queue_NextF u.1.2.2.1 u.2.1 u.2.2.1).2)]) (fun t u => HPL.enc _ u) (fun t u => [u.2.1.length ≤ 1])
 (fun _ _ _ => rfl) (fun t u => by kernel_rfl) (fun t u => by kernel_rfl) (fun t u h => workq_Queue_NextF_tr u.1.2.2.1 u.2.1 u.2.2.1 (h _ List.mem_cons_self))
noncomputable def E_workq_Queue_Take : Env := envOf (P := Try.prog) [workq_Queue_first_fact] [] [] ckf true
def workq_Queue_TakeF (a1 : Int) (b0_2 : Int) (b1 : List (XKey × XSn)) (b2 : List (XKey × Int)) : XKey × Bool × (List (XKey × XSn)) :=
 cond (cond (!((firstF b0_2 b1 b2).2.2)) true (decide ((((firstF b0_2 b1 b2).2.1).tag) > a1)))
  ((⟨(0 : Int), (⟨#[]⟩ : ByteArray)⟩ : XKey), false, b1)
  (((firstF b0_2 b1 b2).1), true, (mdel (k := .key) (v := .sn) b1 ((firstF b0_2 b1 b2).1)))
def workq_Queue_TakeR (a1 : Int) (b0_2 : Int) (b1 : List (XKey × XSn)) (b2 : List (XKey × Int)) : RT :=
 (.need [b1.length ≤ 1]
   (.ask (cond (!((firstF b0_2 b1 b2).2.2)) true (decide ((((firstF b0_2 b1 b2).2.1).tag) > a1)))
     (.leaf .ret ⟨slots 30 [(4, .ptr 3 0), (5, .bool false)], [.cells 70 [.map 1, .map 2, .int .i64 b0_2], .map ⟨.key, .sn, b1⟩, .map ⟨.key, .int .i64, b2⟩, .cells 26 [.int .u8 0, .str (⟨#[]⟩ : ByteArray)]]⟩ [])
     (.leaf .ret ⟨slots 30 [(4, .ptr 3 0), (5, .bool true)], [.cells 70 [.map 1, .map 2, .int .i64 b0_2], .map ⟨.key, .sn, (mdel (k := .key) (v := .sn) b1 ((firstF b0_2 b1 b2).1))⟩, .map ⟨.key, .int .i64, b2⟩, .cells 26 [.int .u8 (((firstF b0_2 b1 b2).1).kind), .str (((firstF b0_2 b1 b2).1).name)]]⟩ [])))
theorem workq_Queue_TakeF_tr (a1 : Int) (b0_2 : Int) (b1 : List (XKey × XSn)) (b2 : List (XKey × Int)) (hp0 : b1.length ≤ 1) : Tr Try.prog 3 (bodyOf Try.f10) (fnBegins Try.f10 [.ptr 0 0, .int .u64 a1] [.cells 70 [.map 1, .map 2, .int .i64 b0_2], .map ⟨.key, .sn, b1⟩, .map ⟨.key, .int .i64, b2⟩]) (fnEnds Try.prog Try.f10 (.tup [.agg [.int .u8 (((workq_Queue_TakeF a1 b0_2 b1 b2).1).kind), .str (((workq_Queue_TakeF a1 b0_2 b1 b2).1).name)], .bool ((workq_Queue_TakeF a1 b0_2 b1 b2).2.1)]) [.cells 70 [.map 1, .map 2, .int .i64 b0_2], .map ⟨.key, .sn, (workq_Queue_TakeF a1 b0_2 b1 b2).2.2⟩, .map ⟨.key, .int .i64, b2⟩]) := by
 refine Tr_tree (kok _ _ _ _ _ _) (E := E_workq_Queue_Take) (L := noLoops) 60 9999 LoopsOk.none (workq_Queue_TakeR a1 b0_2 b1 b2) (by kernel_rfl) (by kernel_rfl) (by kernel_rfl) ?_
 unfold workq_Queue_TakeR
 refine ⟨need_cons (by first | assumption | omega | (intro; omega) | (simp only [decide_eq_true_eq, decide_eq_false_iff_not, Bool.cond_false_right, Bool.cond_true_right, Bool.cond_true_left, Bool.cond_false_left, Bool.and_eq_true, Bool.or_eq_true, Bool.not_eq_true', bytesLim, maxLen, List.length_cons, List.length_nil, List.length_append, byteSize_lit] at *; omega) | (intro; simp only [decide_eq_true_eq, decide_eq_false_iff_not, Bool.cond_false_right, Bool.cond_true_right, Bool.cond_true_left, Bool.cond_false_left, Bool.and_eq_true, Bool.or_eq_true, Bool.not_eq_true', bytesLim, maxLen, List.length_cons, List.length_nil, List.length_append, byteSize_lit] at *; omega)) (need_nil), ?_⟩
 refine ⟨fun h0 => ?_, fun h0 => ?_⟩
 · have hF : workq_Queue_TakeF a1 b0_2 b1 b2 = ((⟨(0 : Int), (⟨#[]⟩ : ByteArray)⟩ : XKey), false, b1) := by first | exact (cond_t h0 rfl) | simp only [workq_Queue_TakeF, h0, cond_true, cond_false]
   exact ⟨trivial, .inl (by first | (rw [hF]; kernel_rfl) | kernel_rfl), by first | (rw [hF]; kernel_rfl) | kernel_rfl⟩
 · have hF : workq_Queue_TakeF a1 b0_2 b1 b2 = (((firstF b0_2 b1 b2).1), true, (mdel (k := .key) (v := .sn) b1 ((firstF b0_2 b1 b2).1))) := by first | exact (cond_f h0 rfl) | simp only [workq_Queue_TakeF, h0, cond_true, cond_false]
   exact ⟨trivial, .inl (by first | (rw [hF]; kernel_rfl) | kernel_rfl), by first | (rw [hF]; kernel_rfl) | kernel_rfl⟩
noncomputable def workq_Queue_Take_fact0 : Fact Try.prog := factOf 10 Try.f10 (by kernel_rfl) rfl (by kernel_rfl) [.c (.ptr 0 0), .c (.int .u64)] [.cells 70 [.map 1, .map 2, .int .i64], .map .key .sn, .map .key (.int .i64)] false (fun t u => .tup [.agg [.int .u8 (((workq_Queue_TakeF t.2.1 u.1.2.2.1 u.2.1 u.2.2.1).1).kind), .str (((workq_Queue_TakeF t.2.1 u.1.2.2.1 u.2.1 u.2.2.1).1).name)], .bool ((workq_Queue_TakeF t.2.1 u.1.2.2.1 u.2.1 u.2.2.1).2.1)]) (fun t u => [.cells 70 [.map 1, .map 2, .int .i64 u.1.2.2.1], .map ⟨.key, .sn, (workq_Queue_TakeF t.2.1 u.1.2.2.1 u.2.1 u.2.2.1).2.2⟩, .map ⟨.key, .int .i64, u.2.2.1⟩]) (fun t u => [u.2.1.length ≤ 1])
 (nofun) (fun t u => by kernel_rfl) (fun t u => by kernel_rfl) (fun t u h => workq_Queue_TakeF_tr t.2.1 u.1.2.2.1 u.2.1 u.2.2.1 (h _ List.mem_cons_self))
noncomputable def workq_Queue_Take_fact : Fact Try.prog := factThin workq_Queue_Take_fact0 [.c (.ptr 0 0), .c (.int .u64)] [.cells 70 [.map 1, .map 2, .int .i64], .map .key .sn, .map .key (.int .i64)] (fun t u => .tup [.agg [.int .u8 (((workq_Queue_TakeF t.2.1 u.1.2.2.1 u.2.1 u.2.2.1).1).kind), .str (((workq_Queue_TakeF t.2.1 u.1.2.2.1 u.2.1 u.2.2.1).1).name)], .bool ((workq_Queue_TakeF t.2.1 u.1.2.2.1 u.2.1 u.2.2.1).2.1)]) (fun t u => [.cells 70 [.map 1, .map 2, .int .i64 u.1.2.2.1], .map ⟨.key, .sn, (workq_Queue_TakeF t.2.1 u.1.2.2.1 u.2.1 u.2.2.1).2.2⟩, .map ⟨.key, .int .i64, u.2.2.1⟩]) (fun t u => [u.2.1.length ≤ 1]) rfl [0, 2] (by
 intro t u k hk
 simp only [List.mem_cons, List.not_mem_nil, or_false] at hk
 rcases hk with rfl | rfl
 all_goals exact ⟨by decide, rfl⟩)
noncomputable def E_workq_Queue_Len : Env := envOf (P := Try.prog) [] [] [] ckf
def workq_Queue_LenF (b0_2 : Int) (b1 : List (XKey × XSn)) (b2 : List (XKey × Int)) : Int :=
 (b1.length : Int)
def workq_Queue_LenR (b0_2 : Int) (b1 : List (XKey × XSn)) (b2 : List (XKey × Int)) : RT :=
 (.ask false
   .fail
   (.leaf .ret ⟨slots 10 [(2, .int .i64 (b1.length : Int))], [.cells 70 [.map 1, .map 2, .int .i64 b0_2], .map ⟨.key, .sn, b1⟩, .map ⟨.key, .int .i64, b2⟩]⟩ []))
theorem workq_Queue_LenF_tr (b0_2 : Int) (b1 : List (XKey × XSn)) (b2 : List (XKey × Int))  : Tr Try.prog 3 (bodyOf Try.f11) (fnBegins Try.f11 [.ptr 0 0] [.cells 70 [.map 1, .map 2, .int .i64 b0_2], .map ⟨.key, .sn, b1⟩, .map ⟨.key, .int .i64, b2⟩]) (fnEnds Try.prog Try.f11 (.int .i64 (workq_Queue_LenF b0_2 b1 b2)) [.cells 70 [.map 1, .map 2, .int .i64 b0_2], .map ⟨.key, .sn, b1⟩, .map ⟨.key, .int .i64, b2⟩]) := by
 refine Tr_tree (kok _ _ _ _ _ _) (E := E_workq_Queue_Len) (L := noLoops) 60 9999 LoopsOk.none (workq_Queue_LenR b0_2 b1 b2) (by kernel_rfl) (by kernel_rfl) (by kernel_rfl) ?_
 unfold workq_Queue_LenR
 refine ⟨fun h0 => ?_, fun h0 => ?_⟩
 · exact absurd h0 (by simp)
 · have hF : workq_Queue_LenF b0_2 b1 b2 = (b1.length : Int) := by first | exact rfl | simp only [workq_Queue_LenF, h0, cond_true, cond_false]
   exact ⟨trivial, .inl (by first | (rw [hF]; kernel_rfl) | kernel_rfl), by first | (rw [hF]; kernel_rfl) | kernel_rfl⟩
noncomputable def workq_Queue_Len_fact : Fact Try.prog := factOf 11 Try.f11 (by kernel_rfl) rfl (by kernel_rfl) [.c (.ptr 0 0)] [.cells 70 [.map 1, .map 2, .int .i64], .map .key .sn, .map .key (.int .i64)] true (fun t u => .int .i64 (workq_Queue_LenF u.1.2.2.1 u.2.1 u.2.2.1)) (fun t u => HPL.enc _ u) (fun t u => [])
 (fun _ _ _ => rfl) (fun t u => by kernel_rfl) (fun t u => by kernel_rfl) (fun t u h => workq_Queue_LenF_tr u.1.2.2.1 u.2.1 u.2.2.1 )
noncomputable def E_workq_Queue_Fails : Env := envOf (P := Try.prog) [] [] [] ckf
def workq_Queue_FailsF (a1 : XKey) (b0_2 : Int) (b1 : List (XKey × XSn)) (b2 : List (XKey × Int)) : Int :=
 ((mget (k := .key) (v := (.int .i64)) b2 a1).getD default)
def workq_Queue_FailsR (a1 : XKey) (b0_2 : Int) (b1 : List (XKey × XSn)) (b2 : List (XKey × Int)) : RT :=
 (.ask false
   .fail
   (.leaf .ret ⟨slots 13 [(4, .int .i64 ((mget (k := .key) (v := (.int .i64)) b2 a1).getD default))], [.cells 70 [.map 1, .map 2, .int .i64 b0_2], .map ⟨.key, .sn, b1⟩, .map ⟨.key, .int .i64, b2⟩]⟩ []))
theorem workq_Queue_FailsF_tr (a1 : XKey) (b0_2 : Int) (b1 : List (XKey × XSn)) (b2 : List (XKey × Int))  : Tr Try.prog 3 (bodyOf Try.f12) (fnBegins Try.f12 [.ptr 0 0, .agg [.int .u8 a1.kind, .str a1.name]] [.cells 70 [.map 1, .map 2, .int .i64 b0_2], .map ⟨.key, .sn, b1⟩, .map ⟨.key, .int .i64, b2⟩]) (fnEnds Try.prog Try.f12 (.int .i64 (workq_Queue_FailsF a1 b0_2 b1 b2)) [.cells 70 [.map 1, .map 2, .int .i64 b0_2], .map ⟨.key, .sn, b1⟩, .map ⟨.key, .int .i64, b2⟩]) := by
 refine Tr_tree (kok _ _ _ _ _ _) (E := E_workq_Queue_Fails) (L := noLoops) 60 9999 LoopsOk.none (workq_Queue_FailsR a1 b0_2 b1 b2) (by kernel_rfl) (by kernel_rfl) (by kernel_rfl) ?_
 unfold workq_Queue_FailsR
 refine ⟨fun h0 => ?_, fun h0 => ?_⟩
 · exact absurd h0 (by simp)
 · have hF : workq_Queue_FailsF a1 b0_2 b1 b2 = ((mget (k := .key) (v := (.int .i64)) b2 a1).getD default) := by first | exact rfl | simp only [workq_Queue_FailsF, h0, cond_true, cond_false]
   exact ⟨trivial, .inl (by first | (rw [hF]; kernel_rfl) | kernel_rfl), by first | (rw [hF]; kernel_rfl) | kernel_rfl⟩
noncomputable def workq_Queue_Fails_fact : Fact Try.prog := factOf 12 Try.f12 (by kernel_rfl) rfl (by kernel_rfl) [.c (.ptr 0 0), .st .key] [.cells 70 [.map 1, .map 2, .int .i64], .map .key .sn, .map .key (.int .i64)] true (fun t u => .int .i64 (workq_Queue_FailsF t.2.1 u.1.2.2.1 u.2.1 u.2.2.1)) (fun t u => HPL.enc _ u) (fun t u => [])
 (fun _ _ _ => rfl) (fun t u => by kernel_rfl) (fun t u => by kernel_rfl) (fun t u h => workq_Queue_FailsF_tr t.2.1 u.1.2.2.1 u.2.1 u.2.2.1 )
end Go.Proofs.Ytbjifeobhenkfaa
