/- Attach: what is done next for a volume, as the document says. -/
import Derived.Test.YtbcnehpndoghcaaDH4
set_option linter.unusedVariables false
set_option linter.unusedSimpArgs false
set_option maxRecDepth 100000
namespace Go.Proofs.Ytbcnehpndoghcaa
open Go Go.Eng
noncomputable def E_r12_Ask : Env := envOf (P := Try.prog) [] [] [] ckf
def r12_AskF (a0 : XCall) : XAct :=
  (⟨(3 : Int), (default : XObj), a0⟩ : XAct)
def r12_AskR (a0 : XCall) : RT :=
  (.leaf .ret ⟨slots 5 [(2, .ptr 0 0)], [.cells 42 [.int .u8 3, .int .u8 0, .str (⟨#[]⟩ : ByteArray), .int .u64 0, .int .u64 0, .bool false, .bool false, .str (⟨#[]⟩ : ByteArray), .int .i64 0, .int .i64 0, .int .u8 0, .bool false, .bool false, .str (⟨#[]⟩ : ByteArray), .str (⟨#[]⟩ : ByteArray), .str (⟨#[]⟩ : ByteArray), .str (⟨#[]⟩ : ByteArray), .str (⟨#[]⟩ : ByteArray), .int .u8 0, .int .u64 0, .int .u64 0, .int .u8 a0.verb, .str a0.target, .int .u64 a0.num, .int .i64 a0.size, .str a0.zone, .str a0.node, .str a0.source]]⟩ [1])
theorem r12_AskF_tr (a0 : XCall)  : Tr Try.prog 0 (bodyOf Try.f42) (fnBegins Try.f42 [.agg (cc a0)] []) (fnEnds Try.prog Try.f42 (.agg (ac (r12_AskF a0))) []) := by
  refine Tr_tree (kok _ _ _ _ _ _) (E := E_r12_Ask) (L := noLoops) 60 9999 LoopsOk.none (r12_AskR a0) (by kernel_rfl) (by kernel_rfl) (by kernel_rfl) ?_
  unfold r12_AskR
  exact ⟨trivial, .inl (by kernel_rfl), by kernel_rfl⟩
noncomputable def r12_Ask_fact : Fact Try.prog := factOf 42 Try.f42 (by kernel_rfl) rfl (by kernel_rfl) [.st .call] [] true (fun t u => .agg (ac (r12_AskF t.1))) (fun t u => []) (fun t u => [])
  (fun _ _ _ => rfl) (fun t u => by kernel_rfl) (fun t u => by kernel_rfl) (fun t u h => r12_AskF_tr t.1 )
noncomputable def E_r13_has : Env := envOf (P := Try.prog) [] [] [] ckf
def r13_hasLF (a1 : ByteArray) : List ByteArray → Bool
  | [] => false
  | o :: r => cond (decide (o = a1))
    true
    (r13_hasLF a1 r)
def r13_hasLS (a0 : List ByteArray) (a1 : ByteArray) (i : Nat) : St :=
  ⟨slots 18 [(0, .coll ⟨.str, a0⟩), (1, .str a1), (5, .int .i64 (i : Int))], []⟩
def r13_hasLR (a0 : List ByteArray) (a1 : ByteArray) (i : Nat) : RT :=
  (.ask (decide ((i : Int) < (a0.length : Int)))
    (.need [0 ≤ (i : Int) ∧ (i : Int) < (a0.length : Int)]
      (.ask (decide ((a0.getD i default) = a1))
        (.leaf .ret ⟨slots 18 [(4, .bool true)], []⟩ [])
        (.leaf .normal ⟨slots 18 [(0, .coll ⟨.str, a0⟩), (1, .str a1), (5, .int .i64 (IntKind.i64.wrap ((i : Int) + (1 : Int))))], []⟩ [])))
    (.leaf (.exit 0) ⟨slots 18 [], []⟩ []))
def r13_hasLT (a0 : List ByteArray) (a1 : ByteArray) (i : Nat) : Tree :=
  .ask (r13_hasLF a1 (a0.drop i)) (.leaf .ret ⟨slots 18 [(4, .bool true)], []⟩) (.leaf (.exit 0) ⟨slots 18 [], []⟩)
theorem r13_hasL_loop (a0 : List ByteArray) (a1 : ByteArray) (hp0 : a0.length < 4611686018427387904) (hlen : a0.length < 4611686018427387904) (z : { z : Nat // z ≤ a0.length }) (Q : Exit → St → Prop) (h : (r13_hasLT a0 a1 z.1).All Q) : Tr Try.prog 0 (.loop (loopAt Try.f43 0)) (r13_hasLS a0 a1 z.1) Q := by
  refine Tr_loopT (kok _ _ _ _ _ _) (E := E_r13_has) (ι := { z : Nat // z ≤ a0.length }) 60 0 (fun _ => noLoops) (fun z => r13_hasLS a0 a1 z.1) (fun z => r13_hasLT a0 a1 z.1) (fun z => r13_hasLR a0 a1 z.1) (fun z => a0.length - z.1) (fun _ => LoopsOk.none) (fun z => by obtain ⟨i, hi⟩ := z; kernel_rfl) (fun z => by obtain ⟨i, hi⟩ := z; kernel_rfl) (fun z => by obtain ⟨i, hi⟩ := z; kernel_rfl) ?_ z Q h
  rintro ⟨i, hi⟩ Q hT
  replace hT : (r13_hasLT a0 a1 i).All Q := hT
  replace hi : i ≤ a0.length := hi
  show (r13_hasLR a0 a1 i).All _
  unfold r13_hasLR
  refine ⟨fun h0 => ?_, fun h0 => ?_⟩
  · have hlt : i < a0.length := by simpa using h0
    have hd := drop_getD hlt
    have hw := wrap_succ (i := i) (by omega)
    refine ⟨need_cons (by first | assumption | omega | (intro; omega) | (simp only [decide_eq_true_eq, decide_eq_false_iff_not, Bool.cond_false_right, Bool.cond_true_right, Bool.cond_true_left, Bool.cond_false_left, Bool.and_eq_true, Bool.or_eq_true, Bool.not_eq_true', bytesLim, maxLen, List.length_cons, List.length_nil, List.length_append, byteSize_lit] at *; omega) | (intro; simp only [decide_eq_true_eq, decide_eq_false_iff_not, Bool.cond_false_right, Bool.cond_true_right, Bool.cond_true_left, Bool.cond_false_left, Bool.and_eq_true, Bool.or_eq_true, Bool.not_eq_true', bytesLim, maxLen, List.length_cons, List.length_nil, List.length_append, byteSize_lit] at *; omega)) (need_nil), ?_⟩
    refine ⟨fun h1 => ?_, fun h1 => ?_⟩
    · have hF : r13_hasLF a1 (a0.drop i) = true := by rw [hd]; first | exact (cond_t h1 rfl) | simp only [r13_hasLF, h0, h1, cond_true, cond_false]
      unfold r13_hasLT at hT
      rw [hF] at hT
      exact hT.1 rfl
    · have hF : r13_hasLF a1 (a0.drop i) = r13_hasLF a1 (a0.drop (i + 1)) := by rw [hd]; first | exact (cond_f h1 rfl) | simp only [r13_hasLF, h0, h1, cond_true, cond_false]
      refine ⟨⟨(i + 1), by show (i + 1) ≤ a0.length; omega⟩, by show a0.length - (i + 1) < a0.length - i; omega, ?_, ?_⟩
      · show _ = r13_hasLS a0 a1 (i + 1)
        unfold r13_hasLS
        simp only [hw]
      · show (r13_hasLT a0 a1 (i + 1)).All Q
        unfold r13_hasLT at hT ⊢
        rw [hF] at hT
        exact hT
  · have hge : ¬ i < a0.length := by simpa using h0
    have hd : a0.drop i = [] := List.drop_eq_nil_of_le (by omega)
    have hF : r13_hasLF a1 (a0.drop i) = false := by rw [hd]; first | exact rfl | simp only [r13_hasLF, h0, cond_true, cond_false]
    unfold r13_hasLT at hT
    rw [hF] at hT
    exact hT.2 rfl
def r13_hasF (a0 : List ByteArray) (a1 : ByteArray) : Bool :=
  cond (r13_hasLF a1 a0)
    true
    false
def r13_hasR (a0 : List ByteArray) (a1 : ByteArray) : RT :=
  (.ask (r13_hasLF a1 a0)
    (.leaf .ret ⟨slots 18 [(4, .bool true)], []⟩ [])
    (.leaf .ret ⟨slots 18 [(4, .bool false)], []⟩ []))
theorem r13_hasF_tr (a0 : List ByteArray) (a1 : ByteArray) (hp0 : a0.length < 4611686018427387904) : Tr Try.prog 0 (bodyOf Try.f43) (fnBegins Try.f43 [.coll ⟨.str, a0⟩, .str a1] []) (fnEnds Try.prog Try.f43 (.bool (r13_hasF a0 a1)) []) := by
  refine Tr_tree (kok _ _ _ _ _ _) (E := E_r13_has) (L := (loopsOf [(0, r13_hasLS a0 a1 0, [], r13_hasLT a0 a1 0)])) 60 9999 (LoopsOk.one (g := loopAt Try.f43 0) (b := 0) (by kernel_rfl) (by kernel_rfl) (by kernel_rfl) (by kernel_rfl) (fun Q h => r13_hasL_loop a0 a1 hp0 (by first | assumption | omega | (simp only [List.length_cons, List.length_nil, List.length_append]; omega)) ⟨0, by first | exact Nat.zero_le _ | (show 0 ≤ a0.length; omega) | (show 0 ≤ a0.length; exact ⟨Nat.zero_le _, by assumption⟩) | (show 0 ≤ a0.length; simp)⟩ Q h)) (r13_hasR a0 a1) (by kernel_rfl) (by kernel_rfl) (by kernel_rfl) ?_
  unfold r13_hasR
  refine ⟨fun h0 => ?_, fun h0 => ?_⟩
  · have hF : r13_hasF a0 a1 = true := by first | exact (cond_t h0 rfl) | simp only [r13_hasF, h0, cond_true, cond_false]
    exact ⟨trivial, .inl (by first | (rw [hF]; kernel_rfl) | kernel_rfl), by first | (rw [hF]; kernel_rfl) | kernel_rfl⟩
  · have hF : r13_hasF a0 a1 = false := by first | exact (cond_f h0 rfl) | simp only [r13_hasF, h0, cond_true, cond_false]
    exact ⟨trivial, .inl (by first | (rw [hF]; kernel_rfl) | kernel_rfl), by first | (rw [hF]; kernel_rfl) | kernel_rfl⟩
noncomputable def r13_has_fact : Fact Try.prog := factOf 43 Try.f43 (by kernel_rfl) rfl (by kernel_rfl) [.c (.coll .str), .c (.str)] [] true (fun t u => .bool (r13_hasF t.1 t.2.1)) (fun t u => []) (fun t u => [t.1.length < 4611686018427387904])
  (fun _ _ _ => rfl) (fun t u => by kernel_rfl) (fun t u => by kernel_rfl) (fun t u h => r13_hasF_tr t.1 t.2.1 (h _ List.mem_cons_self))
noncomputable def E_r12_Write : Env := envOf (P := Try.prog) [] [] [] ckf
def r12_WriteF (a0 : XObj) : XAct :=
  (⟨(1 : Int), a0, (default : XCall)⟩ : XAct)
def r12_WriteR (a0 : XObj) : RT :=
  (.leaf .ret ⟨slots 5 [(2, .ptr 0 0)], [.cells 42 [.int .u8 1, .int .u8 a0.kind, .str a0.name, .int .u64 a0.version, .int .u64 a0.born, .bool a0.deleting, .bool a0.hold, .str a0.cls, .int .i64 a0.size, .int .i64 a0.got, .int .u8 a0.mode, .bool a0.keep, .bool a0.wait, .str a0.zone, .str a0.node, .str a0.claim, .str a0.volume, .str a0.source, .int .u8 a0.phase, .int .u64 a0.num, .int .u64 a0.tag, .int .u8 0, .str (⟨#[]⟩ : ByteArray), .int .u64 0, .int .i64 0, .str (⟨#[]⟩ : ByteArray), .str (⟨#[]⟩ : ByteArray), .str (⟨#[]⟩ : ByteArray)]]⟩ [1])
theorem r12_WriteF_tr (a0 : XObj)  : Tr Try.prog 0 (bodyOf Try.f44) (fnBegins Try.f44 [.agg (oc a0)] []) (fnEnds Try.prog Try.f44 (.agg (ac (r12_WriteF a0))) []) := by
  refine Tr_tree (kok _ _ _ _ _ _) (E := E_r12_Write) (L := noLoops) 60 9999 LoopsOk.none (r12_WriteR a0) (by kernel_rfl) (by kernel_rfl) (by kernel_rfl) ?_
  unfold r12_WriteR
  exact ⟨trivial, .inl (by kernel_rfl), by kernel_rfl⟩
noncomputable def r12_Write_fact : Fact Try.prog := factOf 44 Try.f44 (by kernel_rfl) rfl (by kernel_rfl) [.st .obj] [] true (fun t u => .agg (ac (r12_WriteF t.1))) (fun t u => []) (fun t u => [])
  (fun _ _ _ => rfl) (fun t u => by kernel_rfl) (fun t u => by kernel_rfl) (fun t u h => r12_WriteF_tr t.1 )
noncomputable def E_r13_Volume : Env := envOf (P := Try.prog) [r12_Get_fact, r13_Wanted_fact, r13_Attachments_fact, r12_Ask_fact, r13_has_fact, r12_Write_fact, r03_Default_fact, r03_Name_fact] [] [] ckf
def r13_VolumeLF (a0 : List XObj) (a1 : Int) (a2 : ByteArray) : List XObj → Bool × XAct
  | [] => (false, default)
  | o :: r => cond ((o.phase) == (9 : Int))
    (true, (r12_AskF (⟨(4 : Int), a2, (o.num), (0 : Int), (⟨#[]⟩ : ByteArray), o.node, (⟨#[]⟩ : ByteArray)⟩ : XCall)))
    (cond (!(r13_hasF (r13_WantedF a0 a2) (o.node)))
      (true, (r12_WriteF ({ o with phase := (9 : Int), num := (IntKind.u64.wrap (a1 + (1 : Int))) } : XObj)))
      (cond ((o.phase) == (7 : Int))
        (true, (r12_AskF (⟨(3 : Int), a2, (o.num), (0 : Int), (⟨#[]⟩ : ByteArray), o.node, (⟨#[]⟩ : ByteArray)⟩ : XCall)))
        (r13_VolumeLF a0 a1 a2 r)))
def r13_VolumeLS (a0 : List XObj) (a1 : Int) (a2 : ByteArray) (i : Nat) : St :=
  ⟨slots 133 [(1, .int .u64 a1), (2, .str a2), (6, .ptr 0 0), (7, .ptr 1 0), (9, .vec 2), (10, .vec 3), (11, .int .i64 (i : Int))], [.cells 42 [.int .u8 0, .int .u8 0, .str (⟨#[]⟩ : ByteArray), .int .u64 0, .int .u64 0, .bool false, .bool false, .str (⟨#[]⟩ : ByteArray), .int .i64 0, .int .i64 0, .int .u8 0, .bool false, .bool false, .str (⟨#[]⟩ : ByteArray), .str (⟨#[]⟩ : ByteArray), .str (⟨#[]⟩ : ByteArray), .str (⟨#[]⟩ : ByteArray), .str (⟨#[]⟩ : ByteArray), .int .u8 0, .int .u64 0, .int .u64 0, .int .u8 0, .str (⟨#[]⟩ : ByteArray), .int .u64 0, .int .i64 0, .str (⟨#[]⟩ : ByteArray), .str (⟨#[]⟩ : ByteArray), .str (⟨#[]⟩ : ByteArray)], .cells 37 (oc ((r12_GetF a0 (4 : Int) a2).1)), .vec true ⟨.str, r13_WantedF a0 a2⟩, .vec true ⟨.obj, r13_AttachmentsF a0 a2⟩]⟩
def r13_VolumeLR (a0 : List XObj) (a1 : Int) (a2 : ByteArray) (i : Nat) : RT :=
  (.ask (decide ((i : Int) < ((r13_AttachmentsF a0 a2).length : Int)))
    (.need [0 ≤ (i : Int) ∧ (i : Int) < ((r13_AttachmentsF a0 a2).length : Int)]
      (.ask ((((r13_AttachmentsF a0 a2).getD i default).phase) == (9 : Int))
        (.leaf .ret ⟨slots 133 [(6, .ptr 0 0)], [.cells 42 (ac (r12_AskF (⟨(4 : Int), a2, (((r13_AttachmentsF a0 a2).getD i default).num), (0 : Int), (⟨#[]⟩ : ByteArray), ((r13_AttachmentsF a0 a2).getD i default).node, (⟨#[]⟩ : ByteArray)⟩ : XCall)))]⟩ [])
        (.need [(r13_WantedF a0 a2).length < 4611686018427387904]
          (.ask (!(r13_hasF (r13_WantedF a0 a2) (((r13_AttachmentsF a0 a2).getD i default).node)))
            (.leaf .ret ⟨slots 133 [(6, .ptr 0 0)], [.cells 42 (ac (r12_WriteF ({ ((r13_AttachmentsF a0 a2).getD i default) with phase := (9 : Int), num := (IntKind.u64.wrap (a1 + (1 : Int))) } : XObj)))]⟩ [])
            (.ask ((((r13_AttachmentsF a0 a2).getD i default).phase) == (7 : Int))
              (.leaf .ret ⟨slots 133 [(6, .ptr 0 0)], [.cells 42 (ac (r12_AskF (⟨(3 : Int), a2, (((r13_AttachmentsF a0 a2).getD i default).num), (0 : Int), (⟨#[]⟩ : ByteArray), ((r13_AttachmentsF a0 a2).getD i default).node, (⟨#[]⟩ : ByteArray)⟩ : XCall)))]⟩ [])
              (.leaf .normal ⟨slots 133 [(1, .int .u64 a1), (2, .str a2), (6, .ptr 0 0), (7, .ptr 1 0), (9, .vec 2), (10, .vec 3), (11, .int .i64 (IntKind.i64.wrap ((i : Int) + (1 : Int))))], [.cells 42 [.int .u8 0, .int .u8 0, .str (⟨#[]⟩ : ByteArray), .int .u64 0, .int .u64 0, .bool false, .bool false, .str (⟨#[]⟩ : ByteArray), .int .i64 0, .int .i64 0, .int .u8 0, .bool false, .bool false, .str (⟨#[]⟩ : ByteArray), .str (⟨#[]⟩ : ByteArray), .str (⟨#[]⟩ : ByteArray), .str (⟨#[]⟩ : ByteArray), .str (⟨#[]⟩ : ByteArray), .int .u8 0, .int .u64 0, .int .u64 0, .int .u8 0, .str (⟨#[]⟩ : ByteArray), .int .u64 0, .int .i64 0, .str (⟨#[]⟩ : ByteArray), .str (⟨#[]⟩ : ByteArray), .str (⟨#[]⟩ : ByteArray)], .cells 37 (oc ((r12_GetF a0 (4 : Int) a2).1)), .vec true ⟨.str, r13_WantedF a0 a2⟩, .vec true ⟨.obj, r13_AttachmentsF a0 a2⟩]⟩ []))))))
    (.leaf (.exit 0) ⟨slots 133 [(1, .int .u64 a1), (2, .str a2), (6, .ptr 0 0), (7, .ptr 1 0), (9, .vec 2), (10, .vec 3)], [.cells 42 [.int .u8 0, .int .u8 0, .str (⟨#[]⟩ : ByteArray), .int .u64 0, .int .u64 0, .bool false, .bool false, .str (⟨#[]⟩ : ByteArray), .int .i64 0, .int .i64 0, .int .u8 0, .bool false, .bool false, .str (⟨#[]⟩ : ByteArray), .str (⟨#[]⟩ : ByteArray), .str (⟨#[]⟩ : ByteArray), .str (⟨#[]⟩ : ByteArray), .str (⟨#[]⟩ : ByteArray), .int .u8 0, .int .u64 0, .int .u64 0, .int .u8 0, .str (⟨#[]⟩ : ByteArray), .int .u64 0, .int .i64 0, .str (⟨#[]⟩ : ByteArray), .str (⟨#[]⟩ : ByteArray), .str (⟨#[]⟩ : ByteArray)], .cells 37 (oc ((r12_GetF a0 (4 : Int) a2).1)), .vec true ⟨.str, r13_WantedF a0 a2⟩, .vec true ⟨.obj, r13_AttachmentsF a0 a2⟩]⟩ []))
def r13_VolumeLT (a0 : List XObj) (a1 : Int) (a2 : ByteArray) (i : Nat) : Tree :=
  .ask ((r13_VolumeLF a0 a1 a2 ((r13_AttachmentsF a0 a2).drop i)).1) (.leaf .ret ⟨slots 133 [(6, .ptr 0 0)], [.cells 42 (ac ((r13_VolumeLF a0 a1 a2 ((r13_AttachmentsF a0 a2).drop i)).2))]⟩) (.leaf (.exit 0) ⟨slots 133 [(1, .int .u64 a1), (2, .str a2), (6, .ptr 0 0), (7, .ptr 1 0), (9, .vec 2), (10, .vec 3)], [.cells 42 [.int .u8 0, .int .u8 0, .str (⟨#[]⟩ : ByteArray), .int .u64 0, .int .u64 0, .bool false, .bool false, .str (⟨#[]⟩ : ByteArray), .int .i64 0, .int .i64 0, .int .u8 0, .bool false, .bool false, .str (⟨#[]⟩ : ByteArray), .str (⟨#[]⟩ : ByteArray), .str (⟨#[]⟩ : ByteArray), .str (⟨#[]⟩ : ByteArray), .str (⟨#[]⟩ : ByteArray), .int .u8 0, .int .u64 0, .int .u64 0, .int .u8 0, .str (⟨#[]⟩ : ByteArray), .int .u64 0, .int .i64 0, .str (⟨#[]⟩ : ByteArray), .str (⟨#[]⟩ : ByteArray), .str (⟨#[]⟩ : ByteArray)], .cells 37 (oc ((r12_GetF a0 (4 : Int) a2).1)), .vec true ⟨.str, r13_WantedF a0 a2⟩, .vec true ⟨.obj, r13_AttachmentsF a0 a2⟩]⟩)
theorem r13_VolumeL_loop (a0 : List XObj) (a1 : Int) (a2 : ByteArray) (hp0 : a0.length ≤ 64) (hp1 : ∀ o ∈ a0, o.Fine) (hp2 : a2.size ≤ 140737488351232) (hlen : (r13_AttachmentsF a0 a2).length < 4611686018427387904) (z : { z : Nat // z ≤ (r13_AttachmentsF a0 a2).length }) (Q : Exit → St → Prop) (h : (r13_VolumeLT a0 a1 a2 z.1).All Q) : Tr Try.prog 0 (.loop (loopAt Try.f20 0)) (r13_VolumeLS a0 a1 a2 z.1) Q := by
  refine Tr_loopT (kok _ _ _ _ _ _) (E := E_r13_Volume) (ι := { z : Nat // z ≤ (r13_AttachmentsF a0 a2).length }) 60 0 (fun _ => noLoops) (fun z => r13_VolumeLS a0 a1 a2 z.1) (fun z => r13_VolumeLT a0 a1 a2 z.1) (fun z => r13_VolumeLR a0 a1 a2 z.1) (fun z => (r13_AttachmentsF a0 a2).length - z.1) (fun _ => LoopsOk.none) (fun z => by obtain ⟨i, hi⟩ := z; kernel_rfl) (fun z => by obtain ⟨i, hi⟩ := z; kernel_rfl) (fun z => by obtain ⟨i, hi⟩ := z; kernel_rfl) ?_ z Q h
  rintro ⟨i, hi⟩ Q hT
  replace hT : (r13_VolumeLT a0 a1 a2 i).All Q := hT
  replace hi : i ≤ (r13_AttachmentsF a0 a2).length := hi
  show (r13_VolumeLR a0 a1 a2 i).All _
  unfold r13_VolumeLR
  refine ⟨fun h0 => ?_, fun h0 => ?_⟩
  · have hlt : i < (r13_AttachmentsF a0 a2).length := by simpa using h0
    have hd := drop_getD hlt
    have hw := wrap_succ (i := i) (by omega)
    refine ⟨need_cons (by first | assumption | omega | (intro; omega) | (simp only [decide_eq_true_eq, decide_eq_false_iff_not, Bool.cond_false_right, Bool.cond_true_right, Bool.cond_true_left, Bool.cond_false_left, Bool.and_eq_true, Bool.or_eq_true, Bool.not_eq_true', bytesLim, maxLen, List.length_cons, List.length_nil, List.length_append, byteSize_lit] at *; omega) | (intro; simp only [decide_eq_true_eq, decide_eq_false_iff_not, Bool.cond_false_right, Bool.cond_true_right, Bool.cond_true_left, Bool.cond_false_left, Bool.and_eq_true, Bool.or_eq_true, Bool.not_eq_true', bytesLim, maxLen, List.length_cons, List.length_nil, List.length_append, byteSize_lit] at *; omega)) (need_nil), ?_⟩
    refine ⟨fun h1 => ?_, fun h1 => ?_⟩
    · have hF : r13_VolumeLF a0 a1 a2 ((r13_AttachmentsF a0 a2).drop i) = (true, (r12_AskF (⟨(4 : Int), a2, (((r13_AttachmentsF a0 a2).getD i default).num), (0 : Int), (⟨#[]⟩ : ByteArray), ((r13_AttachmentsF a0 a2).getD i default).node, (⟨#[]⟩ : ByteArray)⟩ : XCall))) := by rw [hd]; first | exact (cond_t h1 rfl) | simp only [r13_VolumeLF, h0, h1, cond_true, cond_false]
      unfold r13_VolumeLT at hT
      rw [hF] at hT
      exact hT.1 rfl
    · refine ⟨need_cons (by (try refine fun (_ : _ = _) => ?_); have h9 := r13_Attachments_len a0 a2; have h8 := r13_Wanted_len a0 a2; omega) (need_nil), ?_⟩
      refine ⟨fun h2 => ?_, fun h2 => ?_⟩
      · have hF : r13_VolumeLF a0 a1 a2 ((r13_AttachmentsF a0 a2).drop i) = (true, (r12_WriteF ({ ((r13_AttachmentsF a0 a2).getD i default) with phase := (9 : Int), num := (IntKind.u64.wrap (a1 + (1 : Int))) } : XObj))) := by rw [hd]; first | exact (cond_f h1 (cond_t h2 rfl)) | simp only [r13_VolumeLF, h0, h1, h2, cond_true, cond_false]
        unfold r13_VolumeLT at hT
        rw [hF] at hT
        exact hT.1 rfl
      · refine ⟨fun h3 => ?_, fun h3 => ?_⟩
        · have hF : r13_VolumeLF a0 a1 a2 ((r13_AttachmentsF a0 a2).drop i) = (true, (r12_AskF (⟨(3 : Int), a2, (((r13_AttachmentsF a0 a2).getD i default).num), (0 : Int), (⟨#[]⟩ : ByteArray), ((r13_AttachmentsF a0 a2).getD i default).node, (⟨#[]⟩ : ByteArray)⟩ : XCall))) := by rw [hd]; first | exact (cond_f h1 (cond_f h2 (cond_t h3 rfl))) | simp only [r13_VolumeLF, h0, h1, h2, h3, cond_true, cond_false]
          unfold r13_VolumeLT at hT
          rw [hF] at hT
          exact hT.1 rfl
        · have hF : r13_VolumeLF a0 a1 a2 ((r13_AttachmentsF a0 a2).drop i) = r13_VolumeLF a0 a1 a2 ((r13_AttachmentsF a0 a2).drop (i + 1)) := by rw [hd]; first | exact (cond_f h1 (cond_f h2 (cond_f h3 rfl))) | simp only [r13_VolumeLF, h0, h1, h2, h3, cond_true, cond_false]
          refine ⟨⟨(i + 1), by show (i + 1) ≤ (r13_AttachmentsF a0 a2).length; omega⟩, by show (r13_AttachmentsF a0 a2).length - (i + 1) < (r13_AttachmentsF a0 a2).length - i; omega, ?_, ?_⟩
          · show _ = r13_VolumeLS a0 a1 a2 (i + 1)
            unfold r13_VolumeLS
            simp only [hw]
          · show (r13_VolumeLT a0 a1 a2 (i + 1)).All Q
            unfold r13_VolumeLT at hT ⊢
            rw [hF] at hT
            exact hT
  · have hge : ¬ i < (r13_AttachmentsF a0 a2).length := by simpa using h0
    have hd : (r13_AttachmentsF a0 a2).drop i = [] := List.drop_eq_nil_of_le (by omega)
    have hF : r13_VolumeLF a0 a1 a2 ((r13_AttachmentsF a0 a2).drop i) = (false, default) := by rw [hd]; first | exact rfl | simp only [r13_VolumeLF, h0, cond_true, cond_false]
    unfold r13_VolumeLT at hT
    rw [hF] at hT
    exact hT.2 rfl
def r13_VolumeL2F (a0 : List XObj) (a2 : ByteArray) (i1 : Nat) : List XObj → Bool → Bool
  | [], v2_3 => v2_3
  | o2 :: r, v2_3 => r13_VolumeL2F a0 a2 i1 r (cond v2_3 true (decide ((o2.node) = ((r13_WantedF a0 a2).getD i1 default))))
def r13_VolumeL2S (a0 : List XObj) (a1 : Int) (a2 : ByteArray) (i1 : Nat) (v2_3 : Bool) (i2 : Nat) : St :=
  ⟨slots 133 [(1, .int .u64 a1), (2, .str a2), (6, .ptr 0 0), (7, .ptr 1 0), (9, .vec 2), (10, .vec 3), (13, .int .i64 (i1 : Int)), (14, .bool v2_3), (15, .int .i64 (i2 : Int))], [.cells 42 [.int .u8 0, .int .u8 0, .str (⟨#[]⟩ : ByteArray), .int .u64 0, .int .u64 0, .bool false, .bool false, .str (⟨#[]⟩ : ByteArray), .int .i64 0, .int .i64 0, .int .u8 0, .bool false, .bool false, .str (⟨#[]⟩ : ByteArray), .str (⟨#[]⟩ : ByteArray), .str (⟨#[]⟩ : ByteArray), .str (⟨#[]⟩ : ByteArray), .str (⟨#[]⟩ : ByteArray), .int .u8 0, .int .u64 0, .int .u64 0, .int .u8 0, .str (⟨#[]⟩ : ByteArray), .int .u64 0, .int .i64 0, .str (⟨#[]⟩ : ByteArray), .str (⟨#[]⟩ : ByteArray), .str (⟨#[]⟩ : ByteArray)], .cells 37 (oc ((r12_GetF a0 (4 : Int) a2).1)), .vec true ⟨.str, r13_WantedF a0 a2⟩, .vec true ⟨.obj, r13_AttachmentsF a0 a2⟩]⟩
def r13_VolumeL2R (a0 : List XObj) (a1 : Int) (a2 : ByteArray) (i1 : Nat) (v2_3 : Bool) (i2 : Nat) : RT :=
  (.ask (decide ((i2 : Int) < ((r13_AttachmentsF a0 a2).length : Int)))
    (.need [(v2_3 = false) → (0 ≤ (i2 : Int) ∧ (i2 : Int) < ((r13_AttachmentsF a0 a2).length : Int)), (v2_3 = false) → (0 ≤ (i1 : Int) ∧ (i1 : Int) < ((r13_WantedF a0 a2).length : Int))]
      (.leaf .normal ⟨slots 133 [(1, .int .u64 a1), (2, .str a2), (6, .ptr 0 0), (7, .ptr 1 0), (9, .vec 2), (10, .vec 3), (13, .int .i64 (i1 : Int)), (14, .bool (cond v2_3 true (decide ((((r13_AttachmentsF a0 a2).getD i2 default).node) = ((r13_WantedF a0 a2).getD i1 default))))), (15, .int .i64 (IntKind.i64.wrap ((i2 : Int) + (1 : Int))))], [.cells 42 [.int .u8 0, .int .u8 0, .str (⟨#[]⟩ : ByteArray), .int .u64 0, .int .u64 0, .bool false, .bool false, .str (⟨#[]⟩ : ByteArray), .int .i64 0, .int .i64 0, .int .u8 0, .bool false, .bool false, .str (⟨#[]⟩ : ByteArray), .str (⟨#[]⟩ : ByteArray), .str (⟨#[]⟩ : ByteArray), .str (⟨#[]⟩ : ByteArray), .str (⟨#[]⟩ : ByteArray), .int .u8 0, .int .u64 0, .int .u64 0, .int .u8 0, .str (⟨#[]⟩ : ByteArray), .int .u64 0, .int .i64 0, .str (⟨#[]⟩ : ByteArray), .str (⟨#[]⟩ : ByteArray), .str (⟨#[]⟩ : ByteArray)], .cells 37 (oc ((r12_GetF a0 (4 : Int) a2).1)), .vec true ⟨.str, r13_WantedF a0 a2⟩, .vec true ⟨.obj, r13_AttachmentsF a0 a2⟩]⟩ []))
    (.leaf (.exit 5) ⟨slots 133 [(1, .int .u64 a1), (2, .str a2), (6, .ptr 0 0), (7, .ptr 1 0), (9, .vec 2), (10, .vec 3), (13, .int .i64 (i1 : Int)), (14, .bool v2_3)], [.cells 42 [.int .u8 0, .int .u8 0, .str (⟨#[]⟩ : ByteArray), .int .u64 0, .int .u64 0, .bool false, .bool false, .str (⟨#[]⟩ : ByteArray), .int .i64 0, .int .i64 0, .int .u8 0, .bool false, .bool false, .str (⟨#[]⟩ : ByteArray), .str (⟨#[]⟩ : ByteArray), .str (⟨#[]⟩ : ByteArray), .str (⟨#[]⟩ : ByteArray), .str (⟨#[]⟩ : ByteArray), .int .u8 0, .int .u64 0, .int .u64 0, .int .u8 0, .str (⟨#[]⟩ : ByteArray), .int .u64 0, .int .i64 0, .str (⟨#[]⟩ : ByteArray), .str (⟨#[]⟩ : ByteArray), .str (⟨#[]⟩ : ByteArray)], .cells 37 (oc ((r12_GetF a0 (4 : Int) a2).1)), .vec true ⟨.str, r13_WantedF a0 a2⟩, .vec true ⟨.obj, r13_AttachmentsF a0 a2⟩]⟩ []))
def r13_VolumeL2T (a0 : List XObj) (a1 : Int) (a2 : ByteArray) (i1 : Nat) (v2_3 : Bool) (i2 : Nat) : Tree :=
  .leaf (.exit 5) ⟨slots 133 [(1, .int .u64 a1), (2, .str a2), (6, .ptr 0 0), (7, .ptr 1 0), (9, .vec 2), (10, .vec 3), (13, .int .i64 (i1 : Int)), (14, .bool (r13_VolumeL2F a0 a2 i1 ((r13_AttachmentsF a0 a2).drop i2) v2_3))], [.cells 42 [.int .u8 0, .int .u8 0, .str (⟨#[]⟩ : ByteArray), .int .u64 0, .int .u64 0, .bool false, .bool false, .str (⟨#[]⟩ : ByteArray), .int .i64 0, .int .i64 0, .int .u8 0, .bool false, .bool false, .str (⟨#[]⟩ : ByteArray), .str (⟨#[]⟩ : ByteArray), .str (⟨#[]⟩ : ByteArray), .str (⟨#[]⟩ : ByteArray), .str (⟨#[]⟩ : ByteArray), .int .u8 0, .int .u64 0, .int .u64 0, .int .u8 0, .str (⟨#[]⟩ : ByteArray), .int .u64 0, .int .i64 0, .str (⟨#[]⟩ : ByteArray), .str (⟨#[]⟩ : ByteArray), .str (⟨#[]⟩ : ByteArray)], .cells 37 (oc ((r12_GetF a0 (4 : Int) a2).1)), .vec true ⟨.str, r13_WantedF a0 a2⟩, .vec true ⟨.obj, r13_AttachmentsF a0 a2⟩]⟩
theorem r13_VolumeL2_loop (a0 : List XObj) (a1 : Int) (a2 : ByteArray) (i1 : Nat) (hp0 : a0.length ≤ 64) (hp1 : ∀ o ∈ a0, o.Fine) (hp2 : a2.size ≤ 140737488351232) (hlen : (r13_AttachmentsF a0 a2).length < 4611686018427387904) (hn0 : 0 ≤ (i1 : Int) ∧ (i1 : Int) < ((r13_WantedF a0 a2).length : Int)) (z : { z : Bool × Nat // z.2 ≤ (r13_AttachmentsF a0 a2).length }) (Q : Exit → St → Prop) (h : (r13_VolumeL2T a0 a1 a2 i1 z.1.1 z.1.2).All Q) : Tr Try.prog 0 (.loop (loopSub (loopAt Try.f20 1) 3 0)) (r13_VolumeL2S a0 a1 a2 i1 z.1.1 z.1.2) Q := by
  refine Tr_loopT (kok _ _ _ _ _ _) (E := E_r13_Volume) (ι := { z : Bool × Nat // z.2 ≤ (r13_AttachmentsF a0 a2).length }) 60 5 (fun _ => noLoops) (fun z => r13_VolumeL2S a0 a1 a2 i1 z.1.1 z.1.2) (fun z => r13_VolumeL2T a0 a1 a2 i1 z.1.1 z.1.2) (fun z => r13_VolumeL2R a0 a1 a2 i1 z.1.1 z.1.2) (fun z => (r13_AttachmentsF a0 a2).length - z.1.2) (fun _ => LoopsOk.none) (fun z => by obtain ⟨⟨v2_3, i2⟩, hi⟩ := z; kernel_rfl) (fun z => by obtain ⟨⟨v2_3, i2⟩, hi⟩ := z; kernel_rfl) (fun z => by obtain ⟨⟨v2_3, i2⟩, hi⟩ := z; kernel_rfl) ?_ z Q h
  rintro ⟨⟨v2_3, i2⟩, hi⟩ Q hT
  replace hT : (r13_VolumeL2T a0 a1 a2 i1 v2_3 i2).All Q := hT
  replace hi : i2 ≤ (r13_AttachmentsF a0 a2).length := hi
  show (r13_VolumeL2R a0 a1 a2 i1 v2_3 i2).All _
  unfold r13_VolumeL2R
  refine ⟨fun h0 => ?_, fun h0 => ?_⟩
  · have hlt : i2 < (r13_AttachmentsF a0 a2).length := by simpa using h0
    have hd := drop_getD hlt
    have hw := wrap_succ (i := i2) (by omega)
    refine ⟨need_cons (by first | assumption | omega | (intro; omega) | (simp only [decide_eq_true_eq, decide_eq_false_iff_not, Bool.cond_false_right, Bool.cond_true_right, Bool.cond_true_left, Bool.cond_false_left, Bool.and_eq_true, Bool.or_eq_true, Bool.not_eq_true', bytesLim, maxLen, List.length_cons, List.length_nil, List.length_append, byteSize_lit] at *; omega) | (intro; simp only [decide_eq_true_eq, decide_eq_false_iff_not, Bool.cond_false_right, Bool.cond_true_right, Bool.cond_true_left, Bool.cond_false_left, Bool.and_eq_true, Bool.or_eq_true, Bool.not_eq_true', bytesLim, maxLen, List.length_cons, List.length_nil, List.length_append, byteSize_lit] at *; omega)) (need_cons (by first | assumption | omega | (intro _; first | assumption | omega)) (need_nil)), ?_⟩
    have hF : r13_VolumeL2F a0 a2 i1 ((r13_AttachmentsF a0 a2).drop i2) v2_3 = r13_VolumeL2F a0 a2 i1 ((r13_AttachmentsF a0 a2).drop (i2 + 1)) (cond v2_3 true (decide ((((r13_AttachmentsF a0 a2).getD i2 default).node) = ((r13_WantedF a0 a2).getD i1 default)))) := by rw [hd]; first | exact rfl | simp only [r13_VolumeL2F, h0, cond_true, cond_false]
    refine ⟨⟨(cond v2_3 true (decide ((((r13_AttachmentsF a0 a2).getD i2 default).node) = ((r13_WantedF a0 a2).getD i1 default))), (i2 + 1)), by show (i2 + 1) ≤ (r13_AttachmentsF a0 a2).length; omega⟩, by show (r13_AttachmentsF a0 a2).length - (i2 + 1) < (r13_AttachmentsF a0 a2).length - i2; omega, ?_, ?_⟩
    · show _ = r13_VolumeL2S a0 a1 a2 i1 (cond v2_3 true (decide ((((r13_AttachmentsF a0 a2).getD i2 default).node) = ((r13_WantedF a0 a2).getD i1 default)))) (i2 + 1)
      unfold r13_VolumeL2S
      simp only [hw]
    · show (r13_VolumeL2T a0 a1 a2 i1 (cond v2_3 true (decide ((((r13_AttachmentsF a0 a2).getD i2 default).node) = ((r13_WantedF a0 a2).getD i1 default)))) (i2 + 1)).All Q
      unfold r13_VolumeL2T at hT ⊢
      rw [hF] at hT
      exact hT
  · have hge : ¬ i2 < (r13_AttachmentsF a0 a2).length := by simpa using h0
    have hd : (r13_AttachmentsF a0 a2).drop i2 = [] := List.drop_eq_nil_of_le (by omega)
    have hF : r13_VolumeL2F a0 a2 i1 ((r13_AttachmentsF a0 a2).drop i2) v2_3 = v2_3 := by rw [hd]; first | exact rfl | simp only [r13_VolumeL2F, h0, cond_true, cond_false]
    unfold r13_VolumeL2T at hT
    rw [hF] at hT
    exact hT
def r13_VolumeL1F (a0 : List XObj) (a1 : Int) (a2 : ByteArray) : List ByteArray → Nat → Bool × XAct
  | [], i1 => (false, default)
  | o1 :: r, i1 => cond (r13_VolumeL2F a0 a2 i1 (r13_AttachmentsF a0 a2) false)
    (r13_VolumeL1F a0 a1 a2 r (i1 + 1))
    (cond (cond (cond ((((r12_GetF a0 (4 : Int) a2).1).mode) == (1 : Int)) (decide (((r13_AttachmentsF a0 a2).length : Int) > (0 : Int))) false) true (!(r03_NameF ((r03_DefaultF (⟨(5 : Int), (⟨#[]⟩ : ByteArray), (0 : Int), (0 : Int), false, false, (⟨#[]⟩ : ByteArray), (0 : Int), (0 : Int), (0 : Int), false, false, (⟨#[]⟩ : ByteArray), o1, (⟨#[]⟩ : ByteArray), a2, (⟨#[]⟩ : ByteArray), (7 : Int), (IntKind.u64.wrap (a1 + (1 : Int))), (0 : Int)⟩ : XObj)).name))))
      (true, (default : XAct))
      (true, (r12_WriteF (r03_DefaultF (⟨(5 : Int), (⟨#[]⟩ : ByteArray), (0 : Int), (0 : Int), false, false, (⟨#[]⟩ : ByteArray), (0 : Int), (0 : Int), (0 : Int), false, false, (⟨#[]⟩ : ByteArray), o1, (⟨#[]⟩ : ByteArray), a2, (⟨#[]⟩ : ByteArray), (7 : Int), (IntKind.u64.wrap (a1 + (1 : Int))), (0 : Int)⟩ : XObj)))))
def r13_VolumeL1S (a0 : List XObj) (a1 : Int) (a2 : ByteArray) (i1 : Nat) : St :=
  ⟨slots 133 [(1, .int .u64 a1), (2, .str a2), (6, .ptr 0 0), (7, .ptr 1 0), (9, .vec 2), (10, .vec 3), (13, .int .i64 (i1 : Int))], [.cells 42 [.int .u8 0, .int .u8 0, .str (⟨#[]⟩ : ByteArray), .int .u64 0, .int .u64 0, .bool false, .bool false, .str (⟨#[]⟩ : ByteArray), .int .i64 0, .int .i64 0, .int .u8 0, .bool false, .bool false, .str (⟨#[]⟩ : ByteArray), .str (⟨#[]⟩ : ByteArray), .str (⟨#[]⟩ : ByteArray), .str (⟨#[]⟩ : ByteArray), .str (⟨#[]⟩ : ByteArray), .int .u8 0, .int .u64 0, .int .u64 0, .int .u8 0, .str (⟨#[]⟩ : ByteArray), .int .u64 0, .int .i64 0, .str (⟨#[]⟩ : ByteArray), .str (⟨#[]⟩ : ByteArray), .str (⟨#[]⟩ : ByteArray)], .cells 37 (oc ((r12_GetF a0 (4 : Int) a2).1)), .vec true ⟨.str, r13_WantedF a0 a2⟩, .vec true ⟨.obj, r13_AttachmentsF a0 a2⟩]⟩
def r13_VolumeL1R (a0 : List XObj) (a1 : Int) (a2 : ByteArray) (i1 : Nat) : RT :=
  (.ask (decide ((i1 : Int) < ((r13_WantedF a0 a2).length : Int)))
    (.need [0 ≤ (i1 : Int) ∧ (i1 : Int) < ((r13_WantedF a0 a2).length : Int)]
      (.ask (r13_VolumeL2F a0 a2 i1 (r13_AttachmentsF a0 a2) false)
        (.leaf .normal ⟨slots 133 [(1, .int .u64 a1), (2, .str a2), (6, .ptr 0 0), (7, .ptr 1 0), (9, .vec 2), (10, .vec 3), (13, .int .i64 (IntKind.i64.wrap ((i1 : Int) + (1 : Int))))], [.cells 42 [.int .u8 0, .int .u8 0, .str (⟨#[]⟩ : ByteArray), .int .u64 0, .int .u64 0, .bool false, .bool false, .str (⟨#[]⟩ : ByteArray), .int .i64 0, .int .i64 0, .int .u8 0, .bool false, .bool false, .str (⟨#[]⟩ : ByteArray), .str (⟨#[]⟩ : ByteArray), .str (⟨#[]⟩ : ByteArray), .str (⟨#[]⟩ : ByteArray), .str (⟨#[]⟩ : ByteArray), .int .u8 0, .int .u64 0, .int .u64 0, .int .u8 0, .str (⟨#[]⟩ : ByteArray), .int .u64 0, .int .i64 0, .str (⟨#[]⟩ : ByteArray), .str (⟨#[]⟩ : ByteArray), .str (⟨#[]⟩ : ByteArray)], .cells 37 (oc ((r12_GetF a0 (4 : Int) a2).1)), .vec true ⟨.str, r13_WantedF a0 a2⟩, .vec true ⟨.obj, r13_AttachmentsF a0 a2⟩]⟩ [])
        (.need [0 ≤ (i1 : Int) ∧ (i1 : Int) < ((r13_WantedF a0 a2).length : Int)]
          (.need [(⟨(5 : Int), (⟨#[]⟩ : ByteArray), (0 : Int), (0 : Int), false, false, (⟨#[]⟩ : ByteArray), (0 : Int), (0 : Int), (0 : Int), false, false, (⟨#[]⟩ : ByteArray), ((r13_WantedF a0 a2).getD i1 default), (⟨#[]⟩ : ByteArray), a2, (⟨#[]⟩ : ByteArray), (7 : Int), (IntKind.u64.wrap (a1 + (1 : Int))), (0 : Int)⟩ : XObj).Fine]
            (.need [((cond ((((r12_GetF a0 (4 : Int) a2).1).mode) == (1 : Int)) (decide (((r13_AttachmentsF a0 a2).length : Int) > (0 : Int))) false) = false) → (((r03_DefaultF (⟨(5 : Int), (⟨#[]⟩ : ByteArray), (0 : Int), (0 : Int), false, false, (⟨#[]⟩ : ByteArray), (0 : Int), (0 : Int), (0 : Int), false, false, (⟨#[]⟩ : ByteArray), ((r13_WantedF a0 a2).getD i1 default), (⟨#[]⟩ : ByteArray), a2, (⟨#[]⟩ : ByteArray), (7 : Int), (IntKind.u64.wrap (a1 + (1 : Int))), (0 : Int)⟩ : XObj)).name).size < 4611686018427387904)]
              (.ask (cond (cond ((((r12_GetF a0 (4 : Int) a2).1).mode) == (1 : Int)) (decide (((r13_AttachmentsF a0 a2).length : Int) > (0 : Int))) false) true (!(r03_NameF ((r03_DefaultF (⟨(5 : Int), (⟨#[]⟩ : ByteArray), (0 : Int), (0 : Int), false, false, (⟨#[]⟩ : ByteArray), (0 : Int), (0 : Int), (0 : Int), false, false, (⟨#[]⟩ : ByteArray), ((r13_WantedF a0 a2).getD i1 default), (⟨#[]⟩ : ByteArray), a2, (⟨#[]⟩ : ByteArray), (7 : Int), (IntKind.u64.wrap (a1 + (1 : Int))), (0 : Int)⟩ : XObj)).name))))
                (.leaf .ret ⟨slots 133 [(6, .ptr 0 0)], [.cells 42 [.int .u8 0, .int .u8 0, .str (⟨#[]⟩ : ByteArray), .int .u64 0, .int .u64 0, .bool false, .bool false, .str (⟨#[]⟩ : ByteArray), .int .i64 0, .int .i64 0, .int .u8 0, .bool false, .bool false, .str (⟨#[]⟩ : ByteArray), .str (⟨#[]⟩ : ByteArray), .str (⟨#[]⟩ : ByteArray), .str (⟨#[]⟩ : ByteArray), .str (⟨#[]⟩ : ByteArray), .int .u8 0, .int .u64 0, .int .u64 0, .int .u8 0, .str (⟨#[]⟩ : ByteArray), .int .u64 0, .int .i64 0, .str (⟨#[]⟩ : ByteArray), .str (⟨#[]⟩ : ByteArray), .str (⟨#[]⟩ : ByteArray)]]⟩ [])
                (.leaf .ret ⟨slots 133 [(6, .ptr 0 0)], [.cells 42 (ac (r12_WriteF (r03_DefaultF (⟨(5 : Int), (⟨#[]⟩ : ByteArray), (0 : Int), (0 : Int), false, false, (⟨#[]⟩ : ByteArray), (0 : Int), (0 : Int), (0 : Int), false, false, (⟨#[]⟩ : ByteArray), ((r13_WantedF a0 a2).getD i1 default), (⟨#[]⟩ : ByteArray), a2, (⟨#[]⟩ : ByteArray), (7 : Int), (IntKind.u64.wrap (a1 + (1 : Int))), (0 : Int)⟩ : XObj))))]⟩ [])))))))
    (.leaf (.exit 3) ⟨slots 133 [(6, .ptr 0 0)], [.cells 42 [.int .u8 0, .int .u8 0, .str (⟨#[]⟩ : ByteArray), .int .u64 0, .int .u64 0, .bool false, .bool false, .str (⟨#[]⟩ : ByteArray), .int .i64 0, .int .i64 0, .int .u8 0, .bool false, .bool false, .str (⟨#[]⟩ : ByteArray), .str (⟨#[]⟩ : ByteArray), .str (⟨#[]⟩ : ByteArray), .str (⟨#[]⟩ : ByteArray), .str (⟨#[]⟩ : ByteArray), .int .u8 0, .int .u64 0, .int .u64 0, .int .u8 0, .str (⟨#[]⟩ : ByteArray), .int .u64 0, .int .i64 0, .str (⟨#[]⟩ : ByteArray), .str (⟨#[]⟩ : ByteArray), .str (⟨#[]⟩ : ByteArray)]]⟩ []))
def r13_VolumeL1T (a0 : List XObj) (a1 : Int) (a2 : ByteArray) (i1 : Nat) : Tree :=
  .ask ((r13_VolumeL1F a0 a1 a2 ((r13_WantedF a0 a2).drop i1) i1).1) (.leaf .ret ⟨slots 133 [(6, .ptr 0 0)], [.cells 42 (ac ((r13_VolumeL1F a0 a1 a2 ((r13_WantedF a0 a2).drop i1) i1).2))]⟩) (.leaf (.exit 3) ⟨slots 133 [(6, .ptr 0 0)], [.cells 42 [.int .u8 0, .int .u8 0, .str (⟨#[]⟩ : ByteArray), .int .u64 0, .int .u64 0, .bool false, .bool false, .str (⟨#[]⟩ : ByteArray), .int .i64 0, .int .i64 0, .int .u8 0, .bool false, .bool false, .str (⟨#[]⟩ : ByteArray), .str (⟨#[]⟩ : ByteArray), .str (⟨#[]⟩ : ByteArray), .str (⟨#[]⟩ : ByteArray), .str (⟨#[]⟩ : ByteArray), .int .u8 0, .int .u64 0, .int .u64 0, .int .u8 0, .str (⟨#[]⟩ : ByteArray), .int .u64 0, .int .i64 0, .str (⟨#[]⟩ : ByteArray), .str (⟨#[]⟩ : ByteArray), .str (⟨#[]⟩ : ByteArray)]]⟩)
theorem r13_VolumeL1_loop (a0 : List XObj) (a1 : Int) (a2 : ByteArray) (hp0 : a0.length ≤ 64) (hp1 : ∀ o ∈ a0, o.Fine) (hp2 : a2.size ≤ 140737488351232) (hlen : (r13_WantedF a0 a2).length < 4611686018427387904) (z : { z : Nat // z ≤ (r13_WantedF a0 a2).length }) (Q : Exit → St → Prop) (h : (r13_VolumeL1T a0 a1 a2 z.1).All Q) : Tr Try.prog 0 (.loop (loopAt Try.f20 1)) (r13_VolumeL1S a0 a1 a2 z.1) Q := by
  refine Tr_loopT (kok _ _ _ _ _ _) (E := E_r13_Volume) (ι := { z : Nat // z ≤ (r13_WantedF a0 a2).length }) 60 3 (fun z => loopsOf [(5, r13_VolumeL2S a0 a1 a2 z.1 false 0, [], .need [0 ≤ (z.1 : Int) ∧ (z.1 : Int) < ((r13_WantedF a0 a2).length : Int)] (r13_VolumeL2T a0 a1 a2 z.1 false 0))]) (fun z => r13_VolumeL1S a0 a1 a2 z.1) (fun z => r13_VolumeL1T a0 a1 a2 z.1) (fun z => r13_VolumeL1R a0 a1 a2 z.1) (fun z => (r13_WantedF a0 a2).length - z.1) (fun z => by obtain ⟨i1, hi⟩ := z; exact LoopsOk.one (g := loopSub (loopAt Try.f20 1) 3 0) (b := 5) (by kernel_rfl) (by kernel_rfl) (by kernel_rfl) (by kernel_rfl) (fun Q h => r13_VolumeL2_loop a0 a1 a2 i1 hp0 hp1 hp2 (by have h9 := r13_Attachments_len a0 a2; have h8 := r13_Wanted_len a0 a2; omega) (h.1 _ List.mem_cons_self) ⟨(false, 0), by first | exact Nat.zero_le _ | (show 0 ≤ (r13_AttachmentsF a0 a2).length; omega) | (show 0 ≤ (r13_AttachmentsF a0 a2).length; exact ⟨Nat.zero_le _, by assumption⟩) | (show 0 ≤ (r13_AttachmentsF a0 a2).length; simp)⟩ Q h.2)) (fun z => by obtain ⟨i1, hi⟩ := z; kernel_rfl) (fun z => by obtain ⟨i1, hi⟩ := z; kernel_rfl) (fun z => by obtain ⟨i1, hi⟩ := z; kernel_rfl) ?_ z Q h
  rintro ⟨i1, hi⟩ Q hT
  replace hT : (r13_VolumeL1T a0 a1 a2 i1).All Q := hT
  replace hi : i1 ≤ (r13_WantedF a0 a2).length := hi
  show (r13_VolumeL1R a0 a1 a2 i1).All _
  unfold r13_VolumeL1R
  refine ⟨fun h0 => ?_, fun h0 => ?_⟩
  · have hlt : i1 < (r13_WantedF a0 a2).length := by simpa using h0
    have hd := drop_getD hlt
    have hw := wrap_succ (i := i1) (by omega)
    refine ⟨need_cons (by first | assumption | omega | (intro _; first | assumption | omega)) (need_nil), ?_⟩
    refine ⟨fun h1 => ?_, fun h1 => ?_⟩
    · have hF : r13_VolumeL1F a0 a1 a2 ((r13_WantedF a0 a2).drop i1) i1 = r13_VolumeL1F a0 a1 a2 ((r13_WantedF a0 a2).drop (i1 + 1)) (i1 + 1) := by rw [hd]; first | exact (cond_t h1 rfl) | simp only [r13_VolumeL1F, h0, h1, cond_true, cond_false]
      refine ⟨⟨(i1 + 1), by show (i1 + 1) ≤ (r13_WantedF a0 a2).length; omega⟩, by show (r13_WantedF a0 a2).length - (i1 + 1) < (r13_WantedF a0 a2).length - i1; omega, ?_, ?_⟩
      · show _ = r13_VolumeL1S a0 a1 a2 (i1 + 1)
        unfold r13_VolumeL1S
        simp only [hw]
      · show (r13_VolumeL1T a0 a1 a2 (i1 + 1)).All Q
        unfold r13_VolumeL1T at hT ⊢
        rw [hF] at hT
        exact hT
    · refine ⟨need_cons (by first | assumption | omega | (intro _; first | assumption | omega)) (need_nil), ?_⟩
      refine ⟨need_cons (by (try refine fun (_ : _ = _) => ?_); exact ⟨Nat.zero_le _, Int.le_refl 0, (by decide : (0 : Int) ≤ 18446744073709551615), Nat.zero_le _, Nat.zero_le _, r13_Wanted_at a0 a2 hp1 _, Nat.zero_le _, hp2, Nat.zero_le _⟩) (need_nil), ?_⟩
      refine ⟨need_cons (by (try refine fun (_ : _ = _) => ?_); refine r03_default_name ?_; exact ⟨Nat.zero_le _, Int.le_refl 0, (by decide : (0 : Int) ≤ 18446744073709551615), Nat.zero_le _, Nat.zero_le _, r13_Wanted_at a0 a2 hp1 _, Nat.zero_le _, hp2, Nat.zero_le _⟩) (need_nil), ?_⟩
      refine ⟨fun h2 => ?_, fun h2 => ?_⟩
      · have hF : r13_VolumeL1F a0 a1 a2 ((r13_WantedF a0 a2).drop i1) i1 = (true, (default : XAct)) := by rw [hd]; first | exact (cond_f h1 (cond_t h2 rfl)) | simp only [r13_VolumeL1F, h0, h1, h2, cond_true, cond_false]
        unfold r13_VolumeL1T at hT
        rw [hF] at hT
        exact hT.1 rfl
      · have hF : r13_VolumeL1F a0 a1 a2 ((r13_WantedF a0 a2).drop i1) i1 = (true, (r12_WriteF (r03_DefaultF (⟨(5 : Int), (⟨#[]⟩ : ByteArray), (0 : Int), (0 : Int), false, false, (⟨#[]⟩ : ByteArray), (0 : Int), (0 : Int), (0 : Int), false, false, (⟨#[]⟩ : ByteArray), ((r13_WantedF a0 a2).getD i1 default), (⟨#[]⟩ : ByteArray), a2, (⟨#[]⟩ : ByteArray), (7 : Int), (IntKind.u64.wrap (a1 + (1 : Int))), (0 : Int)⟩ : XObj)))) := by rw [hd]; first | exact (cond_f h1 (cond_f h2 rfl)) | simp only [r13_VolumeL1F, h0, h1, h2, cond_true, cond_false]
        unfold r13_VolumeL1T at hT
        rw [hF] at hT
        exact hT.1 rfl
  · have hge : ¬ i1 < (r13_WantedF a0 a2).length := by simpa using h0
    have hd : (r13_WantedF a0 a2).drop i1 = [] := List.drop_eq_nil_of_le (by omega)
    have hF : r13_VolumeL1F a0 a1 a2 ((r13_WantedF a0 a2).drop i1) i1 = (false, default) := by rw [hd]; first | exact rfl | simp only [r13_VolumeL1F, h0, cond_true, cond_false]
    unfold r13_VolumeL1T at hT
    rw [hF] at hT
    exact hT.2 rfl
def r13_VolumeF (a0 : List XObj) (a1 : Int) (a2 : ByteArray) : XAct :=
  cond (!((r12_GetF a0 (4 : Int) a2).2))
    (default : XAct)
    (cond ((r13_VolumeLF a0 a1 a2 (r13_AttachmentsF a0 a2)).1)
      ((r13_VolumeLF a0 a1 a2 (r13_AttachmentsF a0 a2)).2)
      (cond (!((((r12_GetF a0 (4 : Int) a2).1).phase) == (3 : Int)))
        (default : XAct)
        (cond ((r13_VolumeL1F a0 a1 a2 (r13_WantedF a0 a2) 0).1)
          ((r13_VolumeL1F a0 a1 a2 (r13_WantedF a0 a2) 0).2)
          (default : XAct))))
def r13_VolumeR (a0 : List XObj) (a1 : Int) (a2 : ByteArray) : RT :=
  (.need [a0.length < 4611686018427387904]
    (.ask (!((r12_GetF a0 (4 : Int) a2).2))
      (.leaf .ret ⟨slots 133 [(6, .ptr 0 0)], [.cells 42 [.int .u8 0, .int .u8 0, .str (⟨#[]⟩ : ByteArray), .int .u64 0, .int .u64 0, .bool false, .bool false, .str (⟨#[]⟩ : ByteArray), .int .i64 0, .int .i64 0, .int .u8 0, .bool false, .bool false, .str (⟨#[]⟩ : ByteArray), .str (⟨#[]⟩ : ByteArray), .str (⟨#[]⟩ : ByteArray), .str (⟨#[]⟩ : ByteArray), .str (⟨#[]⟩ : ByteArray), .int .u8 0, .int .u64 0, .int .u64 0, .int .u8 0, .str (⟨#[]⟩ : ByteArray), .int .u64 0, .int .i64 0, .str (⟨#[]⟩ : ByteArray), .str (⟨#[]⟩ : ByteArray), .str (⟨#[]⟩ : ByteArray)]]⟩ [])
      (.need [a0.length ≤ 64]
        (.need [a0.length ≤ 64]
          (.ask ((r13_VolumeLF a0 a1 a2 (r13_AttachmentsF a0 a2)).1)
            (.leaf .ret ⟨slots 133 [(6, .ptr 0 0)], [.cells 42 (ac ((r13_VolumeLF a0 a1 a2 (r13_AttachmentsF a0 a2)).2))]⟩ [])
            (.ask (!((((r12_GetF a0 (4 : Int) a2).1).phase) == (3 : Int)))
              (.leaf .ret ⟨slots 133 [(6, .ptr 0 0)], [.cells 42 [.int .u8 0, .int .u8 0, .str (⟨#[]⟩ : ByteArray), .int .u64 0, .int .u64 0, .bool false, .bool false, .str (⟨#[]⟩ : ByteArray), .int .i64 0, .int .i64 0, .int .u8 0, .bool false, .bool false, .str (⟨#[]⟩ : ByteArray), .str (⟨#[]⟩ : ByteArray), .str (⟨#[]⟩ : ByteArray), .str (⟨#[]⟩ : ByteArray), .str (⟨#[]⟩ : ByteArray), .int .u8 0, .int .u64 0, .int .u64 0, .int .u8 0, .str (⟨#[]⟩ : ByteArray), .int .u64 0, .int .i64 0, .str (⟨#[]⟩ : ByteArray), .str (⟨#[]⟩ : ByteArray), .str (⟨#[]⟩ : ByteArray)]]⟩ [])
              (.ask ((r13_VolumeL1F a0 a1 a2 (r13_WantedF a0 a2) 0).1)
                (.leaf .ret ⟨slots 133 [(6, .ptr 0 0)], [.cells 42 (ac ((r13_VolumeL1F a0 a1 a2 (r13_WantedF a0 a2) 0).2))]⟩ [])
                (.leaf .ret ⟨slots 133 [(6, .ptr 0 0)], [.cells 42 [.int .u8 0, .int .u8 0, .str (⟨#[]⟩ : ByteArray), .int .u64 0, .int .u64 0, .bool false, .bool false, .str (⟨#[]⟩ : ByteArray), .int .i64 0, .int .i64 0, .int .u8 0, .bool false, .bool false, .str (⟨#[]⟩ : ByteArray), .str (⟨#[]⟩ : ByteArray), .str (⟨#[]⟩ : ByteArray), .str (⟨#[]⟩ : ByteArray), .str (⟨#[]⟩ : ByteArray), .int .u8 0, .int .u64 0, .int .u64 0, .int .u8 0, .str (⟨#[]⟩ : ByteArray), .int .u64 0, .int .i64 0, .str (⟨#[]⟩ : ByteArray), .str (⟨#[]⟩ : ByteArray), .str (⟨#[]⟩ : ByteArray)]]⟩ []))))))))
theorem r13_VolumeF_tr (a0 : List XObj) (a1 : Int) (a2 : ByteArray) (hp0 : a0.length ≤ 64) (hp1 : ∀ o ∈ a0, o.Fine) (hp2 : a2.size ≤ 140737488351232) : Tr Try.prog 0 (bodyOf Try.f20) (fnBegins Try.f20 [.coll ⟨.obj, a0⟩, .int .u64 a1, .str a2] []) (fnEnds Try.prog Try.f20 (.agg (ac (r13_VolumeF a0 a1 a2))) []) := by
  refine Tr_tree (kok _ _ _ _ _ _) (E := E_r13_Volume) (L := (loopsOf [(0, r13_VolumeLS a0 a1 a2 0, [], r13_VolumeLT a0 a1 a2 0), (3, r13_VolumeL1S a0 a1 a2 0, [], r13_VolumeL1T a0 a1 a2 0)])) 60 9999 (LoopsOk.two (g := loopAt Try.f20 0) (g2 := loopAt Try.f20 1) (b := 0) (b2 := 3) (by kernel_rfl) (by kernel_rfl) (by kernel_rfl) (by kernel_rfl) (by kernel_rfl) (fun Q h => r13_VolumeL_loop a0 a1 a2 hp0 hp1 hp2 (by have h9 := r13_Attachments_len a0 a2; have h8 := r13_Wanted_len a0 a2; omega) ⟨0, by first | exact Nat.zero_le _ | (show 0 ≤ (r13_AttachmentsF a0 a2).length; omega) | (show 0 ≤ (r13_AttachmentsF a0 a2).length; exact ⟨Nat.zero_le _, by assumption⟩) | (show 0 ≤ (r13_AttachmentsF a0 a2).length; simp)⟩ Q h) (by kernel_rfl) (by kernel_rfl) (by kernel_rfl) (fun Q h => r13_VolumeL1_loop a0 a1 a2 hp0 hp1 hp2 (by have h9 := r13_Attachments_len a0 a2; have h8 := r13_Wanted_len a0 a2; omega) ⟨0, by first | exact Nat.zero_le _ | (show 0 ≤ (r13_WantedF a0 a2).length; omega) | (show 0 ≤ (r13_WantedF a0 a2).length; exact ⟨Nat.zero_le _, by assumption⟩) | (show 0 ≤ (r13_WantedF a0 a2).length; simp)⟩ Q h)) (r13_VolumeR a0 a1 a2) (by kernel_rfl) (by kernel_rfl) (by kernel_rfl) ?_
  unfold r13_VolumeR
  refine ⟨need_cons (by (try refine fun (_ : _ = _) => ?_); have h9 := r13_Attachments_len a0 a2; have h8 := r13_Wanted_len a0 a2; omega) (need_nil), ?_⟩
  refine ⟨fun h0 => ?_, fun h0 => ?_⟩
  · have hF : r13_VolumeF a0 a1 a2 = (default : XAct) := by first | exact (cond_t h0 rfl) | simp only [r13_VolumeF, h0, cond_true, cond_false]
    exact ⟨trivial, .inl (by first | (rw [hF]; kernel_rfl) | kernel_rfl), by first | (rw [hF]; kernel_rfl) | kernel_rfl⟩
  · refine ⟨need_cons (by omega) (need_nil), ?_⟩
    refine ⟨need_cons (by omega) (need_nil), ?_⟩
    refine ⟨fun h1 => ?_, fun h1 => ?_⟩
    · have hF : r13_VolumeF a0 a1 a2 = ((r13_VolumeLF a0 a1 a2 (r13_AttachmentsF a0 a2)).2) := by first | exact (cond_f h0 (cond_t h1 rfl)) | simp only [r13_VolumeF, h0, h1, cond_true, cond_false]
      exact ⟨trivial, .inl (by first | (rw [hF]; kernel_rfl) | kernel_rfl), by first | (rw [hF]; kernel_rfl) | kernel_rfl⟩
    · refine ⟨fun h2 => ?_, fun h2 => ?_⟩
      · have hF : r13_VolumeF a0 a1 a2 = (default : XAct) := by first | exact (cond_f h0 (cond_f h1 (cond_t h2 rfl))) | simp only [r13_VolumeF, h0, h1, h2, cond_true, cond_false]
        exact ⟨trivial, .inl (by first | (rw [hF]; kernel_rfl) | kernel_rfl), by first | (rw [hF]; kernel_rfl) | kernel_rfl⟩
      · refine ⟨fun h3 => ?_, fun h3 => ?_⟩
        · have hF : r13_VolumeF a0 a1 a2 = ((r13_VolumeL1F a0 a1 a2 (r13_WantedF a0 a2) 0).2) := by first | exact (cond_f h0 (cond_f h1 (cond_f h2 (cond_t h3 rfl)))) | simp only [r13_VolumeF, h0, h1, h2, h3, cond_true, cond_false]
          exact ⟨trivial, .inl (by first | (rw [hF]; kernel_rfl) | kernel_rfl), by first | (rw [hF]; kernel_rfl) | kernel_rfl⟩
        · have hF : r13_VolumeF a0 a1 a2 = (default : XAct) := by first | exact (cond_f h0 (cond_f h1 (cond_f h2 (cond_f h3 rfl)))) | simp only [r13_VolumeF, h0, h1, h2, h3, cond_true, cond_false]
          exact ⟨trivial, .inl (by first | (rw [hF]; kernel_rfl) | kernel_rfl), by first | (rw [hF]; kernel_rfl) | kernel_rfl⟩
noncomputable def r13_Volume_fact : Fact Try.prog := factOf 20 Try.f20 (by kernel_rfl) rfl (by kernel_rfl) [.c (.coll .obj), .c (.int .u64), .c (.str)] [] true (fun t u => .agg (ac (r13_VolumeF t.1 t.2.1 t.2.2.1))) (fun t u => []) (fun t u => [t.1.length ≤ 64, ∀ o ∈ t.1, o.Fine, t.2.2.1.size ≤ 140737488351232])
  (fun _ _ _ => rfl) (fun t u => by kernel_rfl) (fun t u => by kernel_rfl) (fun t u h => r13_VolumeF_tr t.1 t.2.1 t.2.2.1 (h _ List.mem_cons_self) (h _ (List.mem_cons_of_mem _ List.mem_cons_self)) (h _ (List.mem_cons_of_mem _ (List.mem_cons_of_mem _ List.mem_cons_self))))
end Go.Proofs.Ytbcnehpndoghcaa
