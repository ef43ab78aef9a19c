/- Attach: what is made by default; names, as the document says. -/
import Derived.Test.YtbcnehpndoghcaaDVolume
set_option linter.unusedVariables false
set_option linter.unusedSimpArgs false
set_option maxRecDepth 100000
namespace Go.Proofs.Ytbcnehpndoghcaa
open Go Go.Eng
noncomputable def E_r03_AttachName : Env := envOf (P := Try.prog) [] [] [] ckf
def r03_AttachNameF (a0 : ByteArray) (a1 : ByteArray) : ByteArray :=
  (a0 ++ (⟨#[47]⟩ : ByteArray)) ++ a1
def r03_AttachNameR (a0 : ByteArray) (a1 : ByteArray) : RT :=
  (.need [a0.size + (⟨#[47]⟩ : ByteArray).size ≤ 9223372036854775807]
    (.need [(a0 ++ (⟨#[47]⟩ : ByteArray)).size + a1.size ≤ 9223372036854775807]
      (.leaf .ret ⟨slots 9 [(4, .str ((a0 ++ (⟨#[47]⟩ : ByteArray)) ++ a1))], []⟩ [])))
theorem r03_AttachNameF_tr (a0 : ByteArray) (a1 : ByteArray) (hp0 : a0.size ≤ 140737488351232) (hp1 : a1.size ≤ 140737488351232) : Tr Try.prog 0 (bodyOf Try.f50) (fnBegins Try.f50 [.str a0, .str a1] []) (fnEnds Try.prog Try.f50 (.str (r03_AttachNameF a0 a1)) []) := by
  refine Tr_tree (kok _ _ _ _ _ _) (E := E_r03_AttachName) (L := noLoops) 60 9999 LoopsOk.none (r03_AttachNameR a0 a1) (by kernel_rfl) (by kernel_rfl) (by kernel_rfl) ?_
  unfold r03_AttachNameR
  refine ⟨need_cons (by first | (simp only [ByteArray.size_append, size_mk, List.size_toArray, List.length_cons, List.length_nil]; omega)) (need_nil), ?_⟩
  refine ⟨need_cons (by first | (simp only [ByteArray.size_append, size_mk, List.size_toArray, List.length_cons, List.length_nil]; omega)) (need_nil), ?_⟩
  exact ⟨trivial, .inl (by kernel_rfl), by kernel_rfl⟩
noncomputable def r03_AttachName_fact : Fact Try.prog := factOf 50 Try.f50 (by kernel_rfl) rfl (by kernel_rfl) [.c (.str), .c (.str)] [] true (fun t u => .str (r03_AttachNameF t.1 t.2.1)) (fun t u => []) (fun t u => [t.1.size ≤ 140737488351232, t.2.1.size ≤ 140737488351232])
  (fun _ _ _ => rfl) (fun t u => by kernel_rfl) (fun t u => by kernel_rfl) (fun t u h => r03_AttachNameF_tr t.1 t.2.1 (h _ List.mem_cons_self) (h _ (List.mem_cons_of_mem _ List.mem_cons_self)))
noncomputable def E_r03_Default : Env := envOf (P := Try.prog) [r03_AttachName_fact] [] [] ckf
def r03_DefaultF (a0 : XObj) : XObj :=
  cond (a0.kind == (3 : Int))
    (cond (a0.phase == (0 : Int))
      (cond (a0.mode == (0 : Int))
        ({ a0 with hold := true, mode := (1 : Int), phase := (1 : Int) } : XObj)
        ({ a0 with hold := true, phase := (1 : Int) } : XObj))
      (cond (a0.mode == (0 : Int))
        ({ a0 with hold := true, mode := (1 : Int) } : XObj)
        ({ a0 with hold := true } : XObj)))
    (cond (a0.kind == (4 : Int))
      (cond (a0.phase == (0 : Int))
        (cond (a0.mode == (0 : Int))
          (cond (a0.got == (0 : Int))
            ({ a0 with hold := true, got := a0.size, mode := (1 : Int), phase := (4 : Int) } : XObj)
            ({ a0 with hold := true, mode := (1 : Int), phase := (4 : Int) } : XObj))
          (cond (a0.got == (0 : Int))
            ({ a0 with hold := true, got := a0.size, phase := (4 : Int) } : XObj)
            ({ a0 with hold := true, phase := (4 : Int) } : XObj)))
        (cond (a0.mode == (0 : Int))
          (cond (a0.got == (0 : Int))
            ({ a0 with hold := true, got := a0.size, mode := (1 : Int) } : XObj)
            ({ a0 with hold := true, mode := (1 : Int) } : XObj))
          (cond (a0.got == (0 : Int))
            ({ a0 with hold := true, got := a0.size } : XObj)
            ({ a0 with hold := true } : XObj))))
      (cond (a0.kind == (7 : Int))
        (cond (a0.phase == (0 : Int))
          ({ a0 with hold := true, phase := (1 : Int) } : XObj)
          ({ a0 with hold := true } : XObj))
        (cond (a0.kind == (5 : Int))
          (cond (decide (a0.name = (⟨#[]⟩ : ByteArray)))
            ({ a0 with name := r03_AttachNameF a0.volume a0.node } : XObj)
            a0)
          a0)))
def r03_DefaultR (a0 : XObj) : RT :=
  (.ask (a0.kind == (3 : Int))
    (.ask (a0.phase == (0 : Int))
      (.ask (a0.mode == (0 : Int))
        (.leaf .ret ⟨slots 52 [(2, .ptr 0 0)], [.cells 37 [.int .u8 a0.kind, .str a0.name, .int .u64 a0.version, .int .u64 a0.born, .bool a0.deleting, .bool true, .str a0.cls, .int .i64 a0.size, .int .i64 a0.got, .int .u8 1, .bool a0.keep, .bool a0.wait, .str a0.zone, .str a0.node, .str a0.claim, .str a0.volume, .str a0.source, .int .u8 1, .int .u64 a0.num, .int .u64 a0.tag]]⟩ [1])
        (.leaf .ret ⟨slots 52 [(2, .ptr 0 0)], [.cells 37 [.int .u8 a0.kind, .str a0.name, .int .u64 a0.version, .int .u64 a0.born, .bool a0.deleting, .bool true, .str a0.cls, .int .i64 a0.size, .int .i64 a0.got, .int .u8 a0.mode, .bool a0.keep, .bool a0.wait, .str a0.zone, .str a0.node, .str a0.claim, .str a0.volume, .str a0.source, .int .u8 1, .int .u64 a0.num, .int .u64 a0.tag]]⟩ [1]))
      (.ask (a0.mode == (0 : Int))
        (.leaf .ret ⟨slots 52 [(2, .ptr 0 0)], [.cells 37 [.int .u8 a0.kind, .str a0.name, .int .u64 a0.version, .int .u64 a0.born, .bool a0.deleting, .bool true, .str a0.cls, .int .i64 a0.size, .int .i64 a0.got, .int .u8 1, .bool a0.keep, .bool a0.wait, .str a0.zone, .str a0.node, .str a0.claim, .str a0.volume, .str a0.source, .int .u8 a0.phase, .int .u64 a0.num, .int .u64 a0.tag]]⟩ [1])
        (.leaf .ret ⟨slots 52 [(2, .ptr 0 0)], [.cells 37 [.int .u8 a0.kind, .str a0.name, .int .u64 a0.version, .int .u64 a0.born, .bool a0.deleting, .bool true, .str a0.cls, .int .i64 a0.size, .int .i64 a0.got, .int .u8 a0.mode, .bool a0.keep, .bool a0.wait, .str a0.zone, .str a0.node, .str a0.claim, .str a0.volume, .str a0.source, .int .u8 a0.phase, .int .u64 a0.num, .int .u64 a0.tag]]⟩ [1])))
    (.ask (a0.kind == (4 : Int))
      (.ask (a0.phase == (0 : Int))
        (.ask (a0.mode == (0 : Int))
          (.ask (a0.got == (0 : Int))
            (.leaf .ret ⟨slots 52 [(2, .ptr 0 0)], [.cells 37 [.int .u8 a0.kind, .str a0.name, .int .u64 a0.version, .int .u64 a0.born, .bool a0.deleting, .bool true, .str a0.cls, .int .i64 a0.size, .int .i64 a0.size, .int .u8 1, .bool a0.keep, .bool a0.wait, .str a0.zone, .str a0.node, .str a0.claim, .str a0.volume, .str a0.source, .int .u8 4, .int .u64 a0.num, .int .u64 a0.tag]]⟩ [1])
            (.leaf .ret ⟨slots 52 [(2, .ptr 0 0)], [.cells 37 [.int .u8 a0.kind, .str a0.name, .int .u64 a0.version, .int .u64 a0.born, .bool a0.deleting, .bool true, .str a0.cls, .int .i64 a0.size, .int .i64 a0.got, .int .u8 1, .bool a0.keep, .bool a0.wait, .str a0.zone, .str a0.node, .str a0.claim, .str a0.volume, .str a0.source, .int .u8 4, .int .u64 a0.num, .int .u64 a0.tag]]⟩ [1]))
          (.ask (a0.got == (0 : Int))
            (.leaf .ret ⟨slots 52 [(2, .ptr 0 0)], [.cells 37 [.int .u8 a0.kind, .str a0.name, .int .u64 a0.version, .int .u64 a0.born, .bool a0.deleting, .bool true, .str a0.cls, .int .i64 a0.size, .int .i64 a0.size, .int .u8 a0.mode, .bool a0.keep, .bool a0.wait, .str a0.zone, .str a0.node, .str a0.claim, .str a0.volume, .str a0.source, .int .u8 4, .int .u64 a0.num, .int .u64 a0.tag]]⟩ [1])
            (.leaf .ret ⟨slots 52 [(2, .ptr 0 0)], [.cells 37 [.int .u8 a0.kind, .str a0.name, .int .u64 a0.version, .int .u64 a0.born, .bool a0.deleting, .bool true, .str a0.cls, .int .i64 a0.size, .int .i64 a0.got, .int .u8 a0.mode, .bool a0.keep, .bool a0.wait, .str a0.zone, .str a0.node, .str a0.claim, .str a0.volume, .str a0.source, .int .u8 4, .int .u64 a0.num, .int .u64 a0.tag]]⟩ [1])))
        (.ask (a0.mode == (0 : Int))
          (.ask (a0.got == (0 : Int))
            (.leaf .ret ⟨slots 52 [(2, .ptr 0 0)], [.cells 37 [.int .u8 a0.kind, .str a0.name, .int .u64 a0.version, .int .u64 a0.born, .bool a0.deleting, .bool true, .str a0.cls, .int .i64 a0.size, .int .i64 a0.size, .int .u8 1, .bool a0.keep, .bool a0.wait, .str a0.zone, .str a0.node, .str a0.claim, .str a0.volume, .str a0.source, .int .u8 a0.phase, .int .u64 a0.num, .int .u64 a0.tag]]⟩ [1])
            (.leaf .ret ⟨slots 52 [(2, .ptr 0 0)], [.cells 37 [.int .u8 a0.kind, .str a0.name, .int .u64 a0.version, .int .u64 a0.born, .bool a0.deleting, .bool true, .str a0.cls, .int .i64 a0.size, .int .i64 a0.got, .int .u8 1, .bool a0.keep, .bool a0.wait, .str a0.zone, .str a0.node, .str a0.claim, .str a0.volume, .str a0.source, .int .u8 a0.phase, .int .u64 a0.num, .int .u64 a0.tag]]⟩ [1]))
          (.ask (a0.got == (0 : Int))
            (.leaf .ret ⟨slots 52 [(2, .ptr 0 0)], [.cells 37 [.int .u8 a0.kind, .str a0.name, .int .u64 a0.version, .int .u64 a0.born, .bool a0.deleting, .bool true, .str a0.cls, .int .i64 a0.size, .int .i64 a0.size, .int .u8 a0.mode, .bool a0.keep, .bool a0.wait, .str a0.zone, .str a0.node, .str a0.claim, .str a0.volume, .str a0.source, .int .u8 a0.phase, .int .u64 a0.num, .int .u64 a0.tag]]⟩ [1])
            (.leaf .ret ⟨slots 52 [(2, .ptr 0 0)], [.cells 37 [.int .u8 a0.kind, .str a0.name, .int .u64 a0.version, .int .u64 a0.born, .bool a0.deleting, .bool true, .str a0.cls, .int .i64 a0.size, .int .i64 a0.got, .int .u8 a0.mode, .bool a0.keep, .bool a0.wait, .str a0.zone, .str a0.node, .str a0.claim, .str a0.volume, .str a0.source, .int .u8 a0.phase, .int .u64 a0.num, .int .u64 a0.tag]]⟩ [1]))))
      (.ask (a0.kind == (7 : Int))
        (.ask (a0.phase == (0 : Int))
          (.leaf .ret ⟨slots 52 [(2, .ptr 0 0)], [.cells 37 [.int .u8 a0.kind, .str a0.name, .int .u64 a0.version, .int .u64 a0.born, .bool a0.deleting, .bool true, .str a0.cls, .int .i64 a0.size, .int .i64 a0.got, .int .u8 a0.mode, .bool a0.keep, .bool a0.wait, .str a0.zone, .str a0.node, .str a0.claim, .str a0.volume, .str a0.source, .int .u8 1, .int .u64 a0.num, .int .u64 a0.tag]]⟩ [1])
          (.leaf .ret ⟨slots 52 [(2, .ptr 0 0)], [.cells 37 [.int .u8 a0.kind, .str a0.name, .int .u64 a0.version, .int .u64 a0.born, .bool a0.deleting, .bool true, .str a0.cls, .int .i64 a0.size, .int .i64 a0.got, .int .u8 a0.mode, .bool a0.keep, .bool a0.wait, .str a0.zone, .str a0.node, .str a0.claim, .str a0.volume, .str a0.source, .int .u8 a0.phase, .int .u64 a0.num, .int .u64 a0.tag]]⟩ [1]))
        (.ask (a0.kind == (5 : Int))
          (.ask (decide (a0.name = (⟨#[]⟩ : ByteArray)))
            (.need [a0.volume.size ≤ 140737488351232, a0.node.size ≤ 140737488351232]
              (.leaf .ret ⟨slots 52 [(2, .ptr 0 0)], [.cells 37 [.int .u8 a0.kind, .str (r03_AttachNameF a0.volume a0.node), .int .u64 a0.version, .int .u64 a0.born, .bool a0.deleting, .bool a0.hold, .str a0.cls, .int .i64 a0.size, .int .i64 a0.got, .int .u8 a0.mode, .bool a0.keep, .bool a0.wait, .str a0.zone, .str a0.node, .str a0.claim, .str a0.volume, .str a0.source, .int .u8 a0.phase, .int .u64 a0.num, .int .u64 a0.tag]]⟩ [1]))
            (.leaf .ret ⟨slots 52 [(2, .ptr 0 0)], [.cells 37 (oc a0)]⟩ [1]))
          (.leaf .ret ⟨slots 52 [(2, .ptr 0 0)], [.cells 37 (oc a0)]⟩ [1])))))
theorem r03_DefaultF_tr (a0 : XObj) (hp0 : a0.Fine) : Tr Try.prog 0 (bodyOf Try.f45) (fnBegins Try.f45 [.agg (oc a0)] []) (fnEnds Try.prog Try.f45 (.agg (oc (r03_DefaultF a0))) []) := by
  refine Tr_tree (kok _ _ _ _ _ _) (E := E_r03_Default) (L := noLoops) 60 9999 LoopsOk.none (r03_DefaultR a0) (by kernel_rfl) (by kernel_rfl) (by kernel_rfl) ?_
  unfold r03_DefaultR
  refine ⟨fun h0 => ?_, fun h0 => ?_⟩
  · refine ⟨fun h1 => ?_, fun h1 => ?_⟩
    · refine ⟨fun h2 => ?_, fun h2 => ?_⟩
      · have hF : r03_DefaultF a0 = ({ a0 with hold := true, mode := (1 : Int), phase := (1 : Int) } : XObj) := by unfold r03_DefaultF; (try refine cond_t h0 ?_); (try refine cond_t h1 ?_); (try refine cond_t h2 ?_); rfl
        exact ⟨trivial, .inl (by first | (rw [hF]; kernel_rfl) | kernel_rfl), by first | (rw [hF]; kernel_rfl) | kernel_rfl⟩
      · have hF : r03_DefaultF a0 = ({ a0 with hold := true, phase := (1 : Int) } : XObj) := by unfold r03_DefaultF; (try refine cond_t h0 ?_); (try refine cond_t h1 ?_); (try refine cond_f h2 ?_); rfl
        exact ⟨trivial, .inl (by first | (rw [hF]; kernel_rfl) | kernel_rfl), by first | (rw [hF]; kernel_rfl) | kernel_rfl⟩
    · refine ⟨fun h2 => ?_, fun h2 => ?_⟩
      · have hF : r03_DefaultF a0 = ({ a0 with hold := true, mode := (1 : Int) } : XObj) := by unfold r03_DefaultF; (try refine cond_t h0 ?_); (try refine cond_f h1 ?_); (try refine cond_t h2 ?_); rfl
        exact ⟨trivial, .inl (by first | (rw [hF]; kernel_rfl) | kernel_rfl), by first | (rw [hF]; kernel_rfl) | kernel_rfl⟩
      · have hF : r03_DefaultF a0 = ({ a0 with hold := true } : XObj) := by unfold r03_DefaultF; (try refine cond_t h0 ?_); (try refine cond_f h1 ?_); (try refine cond_f h2 ?_); rfl
        exact ⟨trivial, .inl (by first | (rw [hF]; kernel_rfl) | kernel_rfl), by first | (rw [hF]; kernel_rfl) | kernel_rfl⟩
  · refine ⟨fun h1 => ?_, fun h1 => ?_⟩
    · refine ⟨fun h2 => ?_, fun h2 => ?_⟩
      · refine ⟨fun h3 => ?_, fun h3 => ?_⟩
        · refine ⟨fun h4 => ?_, fun h4 => ?_⟩
          · have hF : r03_DefaultF a0 = ({ a0 with hold := true, got := a0.size, mode := (1 : Int), phase := (4 : Int) } : XObj) := by unfold r03_DefaultF; (try refine cond_f h0 ?_); (try refine cond_t h1 ?_); (try refine cond_t h2 ?_); (try refine cond_t h3 ?_); (try refine cond_t h4 ?_); rfl
            exact ⟨trivial, .inl (by first | (rw [hF]; kernel_rfl) | kernel_rfl), by first | (rw [hF]; kernel_rfl) | kernel_rfl⟩
          · have hF : r03_DefaultF a0 = ({ a0 with hold := true, mode := (1 : Int), phase := (4 : Int) } : XObj) := by unfold r03_DefaultF; (try refine cond_f h0 ?_); (try refine cond_t h1 ?_); (try refine cond_t h2 ?_); (try refine cond_t h3 ?_); (try refine cond_f h4 ?_); rfl
            exact ⟨trivial, .inl (by first | (rw [hF]; kernel_rfl) | kernel_rfl), by first | (rw [hF]; kernel_rfl) | kernel_rfl⟩
        · refine ⟨fun h4 => ?_, fun h4 => ?_⟩
          · have hF : r03_DefaultF a0 = ({ a0 with hold := true, got := a0.size, phase := (4 : Int) } : XObj) := by unfold r03_DefaultF; (try refine cond_f h0 ?_); (try refine cond_t h1 ?_); (try refine cond_t h2 ?_); (try refine cond_f h3 ?_); (try refine cond_t h4 ?_); rfl
            exact ⟨trivial, .inl (by first | (rw [hF]; kernel_rfl) | kernel_rfl), by first | (rw [hF]; kernel_rfl) | kernel_rfl⟩
          · have hF : r03_DefaultF a0 = ({ a0 with hold := true, phase := (4 : Int) } : XObj) := by unfold r03_DefaultF; (try refine cond_f h0 ?_); (try refine cond_t h1 ?_); (try refine cond_t h2 ?_); (try refine cond_f h3 ?_); (try refine cond_f h4 ?_); rfl
            exact ⟨trivial, .inl (by first | (rw [hF]; kernel_rfl) | kernel_rfl), by first | (rw [hF]; kernel_rfl) | kernel_rfl⟩
      · refine ⟨fun h3 => ?_, fun h3 => ?_⟩
        · refine ⟨fun h4 => ?_, fun h4 => ?_⟩
          · have hF : r03_DefaultF a0 = ({ a0 with hold := true, got := a0.size, mode := (1 : Int) } : XObj) := by unfold r03_DefaultF; (try refine cond_f h0 ?_); (try refine cond_t h1 ?_); (try refine cond_f h2 ?_); (try refine cond_t h3 ?_); (try refine cond_t h4 ?_); rfl
            exact ⟨trivial, .inl (by first | (rw [hF]; kernel_rfl) | kernel_rfl), by first | (rw [hF]; kernel_rfl) | kernel_rfl⟩
          · have hF : r03_DefaultF a0 = ({ a0 with hold := true, mode := (1 : Int) } : XObj) := by unfold r03_DefaultF; (try refine cond_f h0 ?_); (try refine cond_t h1 ?_); (try refine cond_f h2 ?_); (try refine cond_t h3 ?_); (try refine cond_f h4 ?_); rfl
            exact ⟨trivial, .inl (by first | (rw [hF]; kernel_rfl) | kernel_rfl), by first | (rw [hF]; kernel_rfl) | kernel_rfl⟩
        · refine ⟨fun h4 => ?_, fun h4 => ?_⟩
          · have hF : r03_DefaultF a0 = ({ a0 with hold := true, got := a0.size } : XObj) := by unfold r03_DefaultF; (try refine cond_f h0 ?_); (try refine cond_t h1 ?_); (try refine cond_f h2 ?_); (try refine cond_f h3 ?_); (try refine cond_t h4 ?_); rfl
            exact ⟨trivial, .inl (by first | (rw [hF]; kernel_rfl) | kernel_rfl), by first | (rw [hF]; kernel_rfl) | kernel_rfl⟩
          · have hF : r03_DefaultF a0 = ({ a0 with hold := true } : XObj) := by unfold r03_DefaultF; (try refine cond_f h0 ?_); (try refine cond_t h1 ?_); (try refine cond_f h2 ?_); (try refine cond_f h3 ?_); (try refine cond_f h4 ?_); rfl
            exact ⟨trivial, .inl (by first | (rw [hF]; kernel_rfl) | kernel_rfl), by first | (rw [hF]; kernel_rfl) | kernel_rfl⟩
    · refine ⟨fun h2 => ?_, fun h2 => ?_⟩
      · refine ⟨fun h3 => ?_, fun h3 => ?_⟩
        · have hF : r03_DefaultF a0 = ({ a0 with hold := true, phase := (1 : Int) } : XObj) := by unfold r03_DefaultF; (try refine cond_f h0 ?_); (try refine cond_f h1 ?_); (try refine cond_t h2 ?_); (try refine cond_t h3 ?_); rfl
          exact ⟨trivial, .inl (by first | (rw [hF]; kernel_rfl) | kernel_rfl), by first | (rw [hF]; kernel_rfl) | kernel_rfl⟩
        · have hF : r03_DefaultF a0 = ({ a0 with hold := true } : XObj) := by unfold r03_DefaultF; (try refine cond_f h0 ?_); (try refine cond_f h1 ?_); (try refine cond_t h2 ?_); (try refine cond_f h3 ?_); rfl
          exact ⟨trivial, .inl (by first | (rw [hF]; kernel_rfl) | kernel_rfl), by first | (rw [hF]; kernel_rfl) | kernel_rfl⟩
      · refine ⟨fun h3 => ?_, fun h3 => ?_⟩
        · refine ⟨fun h4 => ?_, fun h4 => ?_⟩
          · refine ⟨need_cons (by first | (have hz := hp0; unfold XObj.Fine at hz; omega) | (intros; have hz := hp0; unfold XObj.Fine at hz; omega)) (need_cons (by first | (have hz := hp0; unfold XObj.Fine at hz; omega) | (intros; have hz := hp0; unfold XObj.Fine at hz; omega)) (need_nil)), ?_⟩
            have hF : r03_DefaultF a0 = ({ a0 with name := r03_AttachNameF a0.volume a0.node } : XObj) := by unfold r03_DefaultF; (try refine cond_f h0 ?_); (try refine cond_f h1 ?_); (try refine cond_f h2 ?_); (try refine cond_t h3 ?_); (try refine cond_t h4 ?_); rfl
            exact ⟨trivial, .inl (by first | (rw [hF]; kernel_rfl) | kernel_rfl), by first | (rw [hF]; kernel_rfl) | kernel_rfl⟩
          · have hF : r03_DefaultF a0 = a0 := by unfold r03_DefaultF; (try refine cond_f h0 ?_); (try refine cond_f h1 ?_); (try refine cond_f h2 ?_); (try refine cond_t h3 ?_); (try refine cond_f h4 ?_); rfl
            exact ⟨trivial, .inl (by first | (rw [hF]; kernel_rfl) | kernel_rfl), by first | (rw [hF]; kernel_rfl) | kernel_rfl⟩
        · have hF : r03_DefaultF a0 = a0 := by unfold r03_DefaultF; (try refine cond_f h0 ?_); (try refine cond_f h1 ?_); (try refine cond_f h2 ?_); (try refine cond_f h3 ?_); rfl
          exact ⟨trivial, .inl (by first | (rw [hF]; kernel_rfl) | kernel_rfl), by first | (rw [hF]; kernel_rfl) | kernel_rfl⟩
noncomputable def r03_Default_fact : Fact Try.prog := factOf 45 Try.f45 (by kernel_rfl) rfl (by kernel_rfl) [.st .obj] [] true (fun t u => .agg (oc (r03_DefaultF t.1))) (fun t u => []) (fun t u => [t.1.Fine])
  (fun _ _ _ => rfl) (fun t u => by kernel_rfl) (fun t u => by kernel_rfl) (fun t u h => r03_DefaultF_tr t.1 (h _ List.mem_cons_self))
noncomputable def E_r03_Name : Env := envOf (P := Try.prog) [] [] [] ckf
def r03_NameLF (a0 : ByteArray) : Nat → Nat → Bool
  | 0, i => false
  | n + 1, i => cond (!(cond (cond (cond (cond (cond (cond (decide ((byteAt a0 (i : Int)) ≥ (97 : Int))) (decide ((byteAt a0 (i : Int)) ≤ (122 : Int))) false) true (cond (decide ((byteAt a0 (i : Int)) ≥ (48 : Int))) (decide ((byteAt a0 (i : Int)) ≤ (57 : Int))) false)) true ((byteAt a0 (i : Int)) == (45 : Int))) true ((byteAt a0 (i : Int)) == (46 : Int))) true ((byteAt a0 (i : Int)) == (35 : Int))) true ((byteAt a0 (i : Int)) == (47 : Int))))
    true
    (r03_NameLF a0 n (i + 1))
def r03_NameLS (a0 : ByteArray) (i : Nat) : St :=
  ⟨slots 53 [(0, .str a0), (3, .int .i64 (i : Int))], []⟩
def r03_NameLR (a0 : ByteArray) (i : Nat) : RT :=
  (.ask (decide ((i : Int) < (a0.size : Int)))
    (.need [0 ≤ (i : Int) ∧ (i : Int) < (a0.size : Int)]
      (.ask (!(cond (cond (cond (cond (cond (cond (decide ((byteAt a0 (i : Int)) ≥ (97 : Int))) (decide ((byteAt a0 (i : Int)) ≤ (122 : Int))) false) true (cond (decide ((byteAt a0 (i : Int)) ≥ (48 : Int))) (decide ((byteAt a0 (i : Int)) ≤ (57 : Int))) false)) true ((byteAt a0 (i : Int)) == (45 : Int))) true ((byteAt a0 (i : Int)) == (46 : Int))) true ((byteAt a0 (i : Int)) == (35 : Int))) true ((byteAt a0 (i : Int)) == (47 : Int))))
        (.leaf .ret ⟨slots 53 [(2, .bool false)], []⟩ [])
        (.leaf .normal ⟨slots 53 [(0, .str a0), (3, .int .i64 (IntKind.i64.wrap ((i : Int) + (1 : Int))))], []⟩ [])))
    (.leaf (.exit 0) ⟨slots 53 [(0, .str a0)], []⟩ []))
def r03_NameLT (a0 : ByteArray) (i : Nat) : Tree :=
  .ask (r03_NameLF a0 (a0.size - i) i) (.leaf .ret ⟨slots 53 [(2, .bool false)], []⟩) (.leaf (.exit 0) ⟨slots 53 [(0, .str a0)], []⟩)
theorem r03_NameL_loop (a0 : ByteArray) (hp0 : a0.size < 4611686018427387904) (hlen : a0.size < 4611686018427387904) (z : { z : Nat // z ≤ a0.size }) (Q : Exit → St → Prop) (h : (r03_NameLT a0 z.1).All Q) : Tr Try.prog 0 (.loop (loopAt Try.f46 0)) (r03_NameLS a0 z.1) Q := by
  refine Tr_loopT (kok _ _ _ _ _ _) (E := E_r03_Name) (ι := { z : Nat // z ≤ a0.size }) 60 0 (fun _ => noLoops) (fun z => r03_NameLS a0 z.1) (fun z => r03_NameLT a0 z.1) (fun z => r03_NameLR a0 z.1) (fun z => a0.size - z.1) (fun _ => LoopsOk.none) (fun z => by obtain ⟨i, hi⟩ := z; kernel_rfl) (fun z => by obtain ⟨i, hi⟩ := z; kernel_rfl) (fun z => by obtain ⟨i, hi⟩ := z; kernel_rfl) ?_ z Q h
  rintro ⟨i, hi⟩ Q hT
  replace hT : (r03_NameLT a0 i).All Q := hT
  replace hi : i ≤ a0.size := hi
  show (r03_NameLR a0 i).All _
  unfold r03_NameLR
  refine ⟨fun h0 => ?_, fun h0 => ?_⟩
  · have hlt : i < a0.size := by simpa using h0
    have hd : a0.size - i = (a0.size - (i + 1)) + 1 := by omega
    have hw := wrap_succ (i := i) (by omega)
    refine ⟨need_cons (by first | assumption | omega | (intro; omega) | (simp only [decide_eq_true_eq, decide_eq_false_iff_not, Bool.cond_false_right, Bool.cond_true_right, Bool.cond_true_left, Bool.cond_false_left, Bool.and_eq_true, Bool.or_eq_true, Bool.not_eq_true', bytesLim, maxLen, List.length_cons, List.length_nil, List.length_append, byteSize_lit] at *; omega) | (intro; simp only [decide_eq_true_eq, decide_eq_false_iff_not, Bool.cond_false_right, Bool.cond_true_right, Bool.cond_true_left, Bool.cond_false_left, Bool.and_eq_true, Bool.or_eq_true, Bool.not_eq_true', bytesLim, maxLen, List.length_cons, List.length_nil, List.length_append, byteSize_lit] at *; omega)) (need_nil), ?_⟩
    refine ⟨fun h1 => ?_, fun h1 => ?_⟩
    · have hF : r03_NameLF a0 (a0.size - i) i = true := by rw [hd]; first | exact (cond_t h1 rfl) | simp only [r03_NameLF, h0, h1, cond_true, cond_false]
      unfold r03_NameLT at hT
      rw [hF] at hT
      exact hT.1 rfl
    · have hF : r03_NameLF a0 (a0.size - i) i = r03_NameLF a0 (a0.size - (i + 1)) (i + 1) := by rw [hd]; first | exact (cond_f h1 rfl) | simp only [r03_NameLF, h0, h1, cond_true, cond_false]
      refine ⟨⟨(i + 1), by show (i + 1) ≤ a0.size; omega⟩, by show a0.size - (i + 1) < a0.size - i; omega, ?_, ?_⟩
      · show _ = r03_NameLS a0 (i + 1)
        unfold r03_NameLS
        simp only [hw]
      · show (r03_NameLT a0 (i + 1)).All Q
        unfold r03_NameLT at hT ⊢
        rw [hF] at hT
        exact hT
  · have hge : ¬ i < a0.size := by simpa using h0
    have hd : a0.size - i = 0 := by omega
    have hF : r03_NameLF a0 (a0.size - i) i = false := by rw [hd]; first | exact rfl | simp only [r03_NameLF, h0, cond_true, cond_false]
    unfold r03_NameLT at hT
    rw [hF] at hT
    exact hT.2 rfl
def r03_NameF (a0 : ByteArray) : Bool :=
  cond (r03_NameLF a0 (a0.size) 0)
    false
    (cond (decide ((a0.size : Int) ≥ (1 : Int))) (decide ((a0.size : Int) ≤ (40 : Int))) false)
def r03_NameR (a0 : ByteArray) : RT :=
  (.ask (r03_NameLF a0 (a0.size) 0)
    (.leaf .ret ⟨slots 53 [(2, .bool false)], []⟩ [])
    (.leaf .ret ⟨slots 53 [(2, .bool (cond (decide ((a0.size : Int) ≥ (1 : Int))) (decide ((a0.size : Int) ≤ (40 : Int))) false))], []⟩ []))
theorem r03_NameF_tr (a0 : ByteArray) (hp0 : a0.size < 4611686018427387904) : Tr Try.prog 0 (bodyOf Try.f46) (fnBegins Try.f46 [.str a0] []) (fnEnds Try.prog Try.f46 (.bool (r03_NameF a0)) []) := by
  refine Tr_tree (kok _ _ _ _ _ _) (E := E_r03_Name) (L := (loopsOf [(0, r03_NameLS a0 0, [], r03_NameLT a0 0)])) 60 9999 (LoopsOk.one (g := loopAt Try.f46 0) (b := 0) (by kernel_rfl) (by kernel_rfl) (by kernel_rfl) (by kernel_rfl) (fun Q h => r03_NameL_loop a0 hp0 (by first | assumption | omega | (simp only [List.length_cons, List.length_nil, List.length_append]; omega)) ⟨0, by first | exact Nat.zero_le _ | (show 0 ≤ a0.size; omega) | (show 0 ≤ a0.size; exact ⟨Nat.zero_le _, by assumption⟩) | (show 0 ≤ a0.size; simp)⟩ Q h)) (r03_NameR a0) (by kernel_rfl) (by kernel_rfl) (by kernel_rfl) ?_
  unfold r03_NameR
  refine ⟨fun h0 => ?_, fun h0 => ?_⟩
  · have hF : r03_NameF a0 = false := by first | exact (cond_t h0 rfl) | simp only [r03_NameF, h0, cond_true, cond_false]
    exact ⟨trivial, .inl (by first | (rw [hF]; kernel_rfl) | kernel_rfl), by first | (rw [hF]; kernel_rfl) | kernel_rfl⟩
  · have hF : r03_NameF a0 = (cond (decide ((a0.size : Int) ≥ (1 : Int))) (decide ((a0.size : Int) ≤ (40 : Int))) false) := by first | exact (cond_f h0 rfl) | simp only [r03_NameF, h0, cond_true, cond_false]
    exact ⟨trivial, .inl (by first | (rw [hF]; kernel_rfl) | kernel_rfl), by first | (rw [hF]; kernel_rfl) | kernel_rfl⟩
noncomputable def r03_Name_fact : Fact Try.prog := factOf 46 Try.f46 (by kernel_rfl) rfl (by kernel_rfl) [.c (.str)] [] true (fun t u => .bool (r03_NameF t.1)) (fun t u => []) (fun t u => [t.1.size < 4611686018427387904])
  (fun _ _ _ => rfl) (fun t u => by kernel_rfl) (fun t u => by kernel_rfl) (fun t u h => r03_NameF_tr t.1 (h _ List.mem_cons_self))
end Go.Proofs.Ytbcnehpndoghcaa
