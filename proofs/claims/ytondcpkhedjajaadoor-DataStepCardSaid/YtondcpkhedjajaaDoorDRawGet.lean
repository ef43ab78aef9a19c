/- Data: what is looked for, over slices of the law's own. -/
import Derived.Test.YtondcpkhedjajaaDoorDH5
set_option linter.unusedVariables false
set_option linter.unusedSimpArgs false
set_option maxRecDepth 100000
namespace Go.Proofs.YtondcpkhedjajaaDoor
open Go Go.Eng
noncomputable def E_data_get_2 : Env := envOf (P := Tryd.prog) [] [] [] ckf
def data_get_2LF (a1 : Int) (a2 : ByteArray) : List XObj → Bool × XObj
  | [] => (false, (default : XObj))
  | o :: r => cond (cond ((o.kind) == a1) (decide ((o.name) = a2)) false)
    (true, o)
    (data_get_2LF a1 a2 r)
def data_get_2LS (a1 : Int) (a2 : ByteArray) (b0 : List XObj) (i : Nat) : St :=
  ⟨slots 30 [(1, .int .u8 a1), (2, .str a2), (6, .ptr 1 0), (7, .bool false), (10, .vec 0), (11, .int .i64 (b0.length : Int)), (12, .int .i64 (i : Int))], [.vec false ⟨.obj, b0⟩, .cells 31 [.int .u8 0, .str (⟨#[]⟩ : ByteArray), .int .u64 0, .int .u64 0, .bool false, .bool false, .str (⟨#[]⟩ : ByteArray), .int .i64 0, .int .i64 0, .int .u8 0, .bool false, .bool false, .str (⟨#[]⟩ : ByteArray), .str (⟨#[]⟩ : ByteArray), .str (⟨#[]⟩ : ByteArray), .str (⟨#[]⟩ : ByteArray), .str (⟨#[]⟩ : ByteArray), .int .u8 0, .int .u64 0, .int .u64 0]]⟩
def data_get_2LR (a1 : Int) (a2 : ByteArray) (b0 : List XObj) (i : Nat) : RT :=
  (.ask (decide ((i : Int) < (b0.length : Int)))
    (.need [0 ≤ (i : Int) ∧ (i : Int) < (b0.length : Int)]
      (.ask (cond (((b0.getD i default).kind) == a1) (decide (((b0.getD i default).name) = a2)) false)
        (.leaf (.exit 0) ⟨slots 30 [(6, .ptr 1 0), (7, .bool true)], [.vec false ⟨.obj, b0⟩, .cells 31 [.int .u8 ((b0.getD i default).kind), .str ((b0.getD i default).name), .int .u64 ((b0.getD i default).version), .int .u64 ((b0.getD i default).born), .bool ((b0.getD i default).deleting), .bool ((b0.getD i default).hold), .str ((b0.getD i default).cls), .int .i64 ((b0.getD i default).size), .int .i64 ((b0.getD i default).got), .int .u8 ((b0.getD i default).mode), .bool ((b0.getD i default).keep), .bool ((b0.getD i default).wait), .str ((b0.getD i default).zone), .str ((b0.getD i default).node), .str ((b0.getD i default).claim), .str ((b0.getD i default).volume), .str ((b0.getD i default).source), .int .u8 ((b0.getD i default).phase), .int .u64 ((b0.getD i default).num), .int .u64 ((b0.getD i default).tag)]]⟩ [])
        (.leaf .normal ⟨slots 30 [(1, .int .u8 a1), (2, .str a2), (6, .ptr 1 0), (7, .bool false), (10, .vec 0), (11, .int .i64 (b0.length : Int)), (12, .int .i64 (IntKind.i64.wrap ((i : Int) + (1 : Int))))], [.vec false ⟨.obj, b0⟩, .cells 31 [.int .u8 0, .str (⟨#[]⟩ : ByteArray), .int .u64 0, .int .u64 0, .bool false, .bool false, .str (⟨#[]⟩ : ByteArray), .int .i64 0, .int .i64 0, .int .u8 0, .bool false, .bool false, .str (⟨#[]⟩ : ByteArray), .str (⟨#[]⟩ : ByteArray), .str (⟨#[]⟩ : ByteArray), .str (⟨#[]⟩ : ByteArray), .str (⟨#[]⟩ : ByteArray), .int .u8 0, .int .u64 0, .int .u64 0]]⟩ [])))
    (.leaf (.exit 0) ⟨slots 30 [(6, .ptr 1 0), (7, .bool false)], [.vec false ⟨.obj, b0⟩, .cells 31 [.int .u8 0, .str (⟨#[]⟩ : ByteArray), .int .u64 0, .int .u64 0, .bool false, .bool false, .str (⟨#[]⟩ : ByteArray), .int .i64 0, .int .i64 0, .int .u8 0, .bool false, .bool false, .str (⟨#[]⟩ : ByteArray), .str (⟨#[]⟩ : ByteArray), .str (⟨#[]⟩ : ByteArray), .str (⟨#[]⟩ : ByteArray), .str (⟨#[]⟩ : ByteArray), .int .u8 0, .int .u64 0, .int .u64 0]]⟩ []))
def data_get_2LT (a1 : Int) (a2 : ByteArray) (b0 : List XObj) (i : Nat) : Tree :=
  .leaf (.exit 0) ⟨slots 30 [(6, .ptr 1 0), (7, .bool ((data_get_2LF a1 a2 (b0.drop i)).1))], [.vec false ⟨.obj, b0⟩, .cells 31 [.int .u8 (((data_get_2LF a1 a2 (b0.drop i)).2).kind), .str (((data_get_2LF a1 a2 (b0.drop i)).2).name), .int .u64 (((data_get_2LF a1 a2 (b0.drop i)).2).version), .int .u64 (((data_get_2LF a1 a2 (b0.drop i)).2).born), .bool (((data_get_2LF a1 a2 (b0.drop i)).2).deleting), .bool (((data_get_2LF a1 a2 (b0.drop i)).2).hold), .str (((data_get_2LF a1 a2 (b0.drop i)).2).cls), .int .i64 (((data_get_2LF a1 a2 (b0.drop i)).2).size), .int .i64 (((data_get_2LF a1 a2 (b0.drop i)).2).got), .int .u8 (((data_get_2LF a1 a2 (b0.drop i)).2).mode), .bool (((data_get_2LF a1 a2 (b0.drop i)).2).keep), .bool (((data_get_2LF a1 a2 (b0.drop i)).2).wait), .str (((data_get_2LF a1 a2 (b0.drop i)).2).zone), .str (((data_get_2LF a1 a2 (b0.drop i)).2).node), .str (((data_get_2LF a1 a2 (b0.drop i)).2).claim), .str (((data_get_2LF a1 a2 (b0.drop i)).2).volume), .str (((data_get_2LF a1 a2 (b0.drop i)).2).source), .int .u8 (((data_get_2LF a1 a2 (b0.drop i)).2).phase), .int .u64 (((data_get_2LF a1 a2 (b0.drop i)).2).num), .int .u64 (((data_get_2LF a1 a2 (b0.drop i)).2).tag)]]⟩
theorem data_get_2L_loop (a1 : Int) (a2 : ByteArray) (b0 : List XObj) (hp0 : b0.length < 4611686018427387904) (hlen : b0.length < 4611686018427387904) (z : { z : Nat // z ≤ b0.length }) (Q : Exit → St → Prop) (h : (data_get_2LT a1 a2 b0 z.1).All Q) : Tr Tryd.prog 1 (.loop (loopAt Tryd.f31 0)) (data_get_2LS a1 a2 b0 z.1) Q := by
  refine Tr_loopT (kok _ _ _ _ _) (E := E_data_get_2) (ι := { z : Nat // z ≤ b0.length }) 60 0 (fun _ => noLoops) (fun z => data_get_2LS a1 a2 b0 z.1) (fun z => data_get_2LT a1 a2 b0 z.1) (fun z => data_get_2LR a1 a2 b0 z.1) (fun z => b0.length - z.1) (fun _ => LoopsOk.none) (fun z => by obtain ⟨i, hi⟩ := z; kernel_rfl) (fun z => by obtain ⟨i, hi⟩ := z; kernel_rfl) (fun z => by obtain ⟨i, hi⟩ := z; kernel_rfl) ?_ z Q h
  rintro ⟨i, hi⟩ Q hT
  replace hT : (data_get_2LT a1 a2 b0 i).All Q := hT
  replace hi : i ≤ b0.length := hi
  show (data_get_2LR a1 a2 b0 i).All _
  unfold data_get_2LR
  refine ⟨fun h0 => ?_, fun h0 => ?_⟩
  · have hlt : i < b0.length := by simpa using h0
    have hd := drop_getD hlt
    have hw := wrap_succ (i := i) (by omega)
    refine ⟨need_cons (by first | assumption | omega | (intro; omega) | (simp only [decide_eq_true_eq, decide_eq_false_iff_not, Bool.cond_false_right, Bool.cond_true_right, Bool.cond_true_left, Bool.cond_false_left, Bool.and_eq_true, Bool.or_eq_true, Bool.not_eq_true', bytesLim, maxLen, List.length_cons, List.length_nil, List.length_append, byteSize_lit] at *; omega) | (intro; simp only [decide_eq_true_eq, decide_eq_false_iff_not, Bool.cond_false_right, Bool.cond_true_right, Bool.cond_true_left, Bool.cond_false_left, Bool.and_eq_true, Bool.or_eq_true, Bool.not_eq_true', bytesLim, maxLen, List.length_cons, List.length_nil, List.length_append, byteSize_lit] at *; omega)) (need_nil), ?_⟩
    refine ⟨fun h1 => ?_, fun h1 => ?_⟩
    · have hF : data_get_2LF a1 a2 (b0.drop i) = (true, (b0.getD i default)) := by rw [hd]; first | exact (cond_t h1 rfl) | simp only [data_get_2LF, h0, h1, cond_true, cond_false]
      unfold data_get_2LT at hT
      rw [hF] at hT
      exact hT
    · have hF : data_get_2LF a1 a2 (b0.drop i) = data_get_2LF a1 a2 (b0.drop (i + 1)) := by rw [hd]; first | exact (cond_f h1 rfl) | simp only [data_get_2LF, h0, h1, cond_true, cond_false]
      refine ⟨⟨(i + 1), by show (i + 1) ≤ b0.length; omega⟩, by show b0.length - (i + 1) < b0.length - i; omega, ?_, ?_⟩
      · show _ = data_get_2LS a1 a2 b0 (i + 1)
        unfold data_get_2LS
        simp only [hw]
      · show (data_get_2LT a1 a2 b0 (i + 1)).All Q
        unfold data_get_2LT at hT ⊢
        rw [hF] at hT
        exact hT
  · have hge : ¬ i < b0.length := by simpa using h0
    have hd : b0.drop i = [] := List.drop_eq_nil_of_le (by omega)
    have hF : data_get_2LF a1 a2 (b0.drop i) = (false, (default : XObj)) := by rw [hd]; first | exact rfl | simp only [data_get_2LF, h0, cond_true, cond_false]
    unfold data_get_2LT at hT
    rw [hF] at hT
    exact hT
def data_get_2F (a1 : Int) (a2 : ByteArray) (b0 : List XObj) : XObj × Bool × List XObj :=
  (((data_get_2LF a1 a2 b0).2), (data_get_2LF a1 a2 b0).1, b0)
def data_get_2R (a1 : Int) (a2 : ByteArray) (b0 : List XObj) : RT :=
  (.leaf .ret ⟨slots 30 [(6, .ptr 1 0), (7, .bool ((data_get_2LF a1 a2 b0).1))], [.vec false ⟨.obj, b0⟩, .cells 31 [.int .u8 (((data_get_2LF a1 a2 b0).2).kind), .str (((data_get_2LF a1 a2 b0).2).name), .int .u64 (((data_get_2LF a1 a2 b0).2).version), .int .u64 (((data_get_2LF a1 a2 b0).2).born), .bool (((data_get_2LF a1 a2 b0).2).deleting), .bool (((data_get_2LF a1 a2 b0).2).hold), .str (((data_get_2LF a1 a2 b0).2).cls), .int .i64 (((data_get_2LF a1 a2 b0).2).size), .int .i64 (((data_get_2LF a1 a2 b0).2).got), .int .u8 (((data_get_2LF a1 a2 b0).2).mode), .bool (((data_get_2LF a1 a2 b0).2).keep), .bool (((data_get_2LF a1 a2 b0).2).wait), .str (((data_get_2LF a1 a2 b0).2).zone), .str (((data_get_2LF a1 a2 b0).2).node), .str (((data_get_2LF a1 a2 b0).2).claim), .str (((data_get_2LF a1 a2 b0).2).volume), .str (((data_get_2LF a1 a2 b0).2).source), .int .u8 (((data_get_2LF a1 a2 b0).2).phase), .int .u64 (((data_get_2LF a1 a2 b0).2).num), .int .u64 (((data_get_2LF a1 a2 b0).2).tag)]]⟩ [])
theorem data_get_2F_tr (a1 : Int) (a2 : ByteArray) (b0 : List XObj) (hp0 : b0.length < 4611686018427387904) : Tr Tryd.prog 1 (bodyOf Tryd.f31) (fnBegins Tryd.f31 [.vec 0, .int .u8 a1, .str a2] [.vec false ⟨.obj, b0⟩]) (fnEnds Tryd.prog Tryd.f31 (.tup [.agg [.int .u8 (((data_get_2F a1 a2 b0).1).kind), .str (((data_get_2F a1 a2 b0).1).name), .int .u64 (((data_get_2F a1 a2 b0).1).version), .int .u64 (((data_get_2F a1 a2 b0).1).born), .bool (((data_get_2F a1 a2 b0).1).deleting), .bool (((data_get_2F a1 a2 b0).1).hold), .str (((data_get_2F a1 a2 b0).1).cls), .int .i64 (((data_get_2F a1 a2 b0).1).size), .int .i64 (((data_get_2F a1 a2 b0).1).got), .int .u8 (((data_get_2F a1 a2 b0).1).mode), .bool (((data_get_2F a1 a2 b0).1).keep), .bool (((data_get_2F a1 a2 b0).1).wait), .str (((data_get_2F a1 a2 b0).1).zone), .str (((data_get_2F a1 a2 b0).1).node), .str (((data_get_2F a1 a2 b0).1).claim), .str (((data_get_2F a1 a2 b0).1).volume), .str (((data_get_2F a1 a2 b0).1).source), .int .u8 (((data_get_2F a1 a2 b0).1).phase), .int .u64 (((data_get_2F a1 a2 b0).1).num), .int .u64 (((data_get_2F a1 a2 b0).1).tag)], .bool ((data_get_2F a1 a2 b0).2.1)]) [.vec false ⟨.obj, b0⟩]) := by
  refine Tr_tree (kok _ _ _ _ _) (E := E_data_get_2) (L := (loopsOf [(0, data_get_2LS a1 a2 b0 0, [], data_get_2LT a1 a2 b0 0)])) 60 9999 (LoopsOk.one (g := loopAt Tryd.f31 0) (b := 0) (by kernel_rfl) (by kernel_rfl) (by kernel_rfl) (by kernel_rfl) (fun Q h => data_get_2L_loop a1 a2 b0 hp0 (by first | assumption | omega | (simp only [List.length_cons, List.length_nil, List.length_append]; omega)) ⟨0, by first | exact Nat.zero_le _ | (show 0 ≤ b0.length; omega) | (show 0 ≤ b0.length; exact ⟨Nat.zero_le _, by assumption⟩) | (show 0 ≤ b0.length; simp)⟩ Q h)) (data_get_2R a1 a2 b0) (by kernel_rfl) (by kernel_rfl) (by kernel_rfl) ?_
  unfold data_get_2R
  exact ⟨trivial, .inl (by kernel_rfl), by kernel_rfl⟩
noncomputable def data_get_2_fact : Fact Tryd.prog := factOf 31 Tryd.f31 (by kernel_rfl) rfl (by kernel_rfl) [.c (.vec 0), .c (.int .u8), .c (.str)] [.vec false .obj] true (fun t u => .tup [.agg [.int .u8 (((data_get_2F t.2.1 t.2.2.1 u.1).1).kind), .str (((data_get_2F t.2.1 t.2.2.1 u.1).1).name), .int .u64 (((data_get_2F t.2.1 t.2.2.1 u.1).1).version), .int .u64 (((data_get_2F t.2.1 t.2.2.1 u.1).1).born), .bool (((data_get_2F t.2.1 t.2.2.1 u.1).1).deleting), .bool (((data_get_2F t.2.1 t.2.2.1 u.1).1).hold), .str (((data_get_2F t.2.1 t.2.2.1 u.1).1).cls), .int .i64 (((data_get_2F t.2.1 t.2.2.1 u.1).1).size), .int .i64 (((data_get_2F t.2.1 t.2.2.1 u.1).1).got), .int .u8 (((data_get_2F t.2.1 t.2.2.1 u.1).1).mode), .bool (((data_get_2F t.2.1 t.2.2.1 u.1).1).keep), .bool (((data_get_2F t.2.1 t.2.2.1 u.1).1).wait), .str (((data_get_2F t.2.1 t.2.2.1 u.1).1).zone), .str (((data_get_2F t.2.1 t.2.2.1 u.1).1).node), .str (((data_get_2F t.2.1 t.2.2.1 u.1).1).claim), .str (((data_get_2F t.2.1 t.2.2.1 u.1).1).volume), .str (((data_get_2F t.2.1 t.2.2.1 u.1).1).source), .int .u8 (((data_get_2F t.2.1 t.2.2.1 u.1).1).phase), .int .u64 (((data_get_2F t.2.1 t.2.2.1 u.1).1).num), .int .u64 (((data_get_2F t.2.1 t.2.2.1 u.1).1).tag)], .bool ((data_get_2F t.2.1 t.2.2.1 u.1).2.1)]) (fun t u => HPL.enc _ u) (fun t u => [u.1.length < 4611686018427387904])
  (fun _ _ _ => rfl) (fun t u => by kernel_rfl) (fun t u => by kernel_rfl) (fun t u h => data_get_2F_tr t.2.1 t.2.2.1 u.1 (h _ List.mem_cons_self))
end Go.Proofs.YtondcpkhedjajaaDoor
