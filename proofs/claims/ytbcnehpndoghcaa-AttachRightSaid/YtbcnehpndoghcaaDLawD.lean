/- Attach. -/
import Derived.Test.YtbcnehpndoghcaaDH7
set_option linter.unusedVariables false
set_option linter.unusedSimpArgs false
set_option maxRecDepth 100000
namespace Go.Proofs.Ytbcnehpndoghcaa
open Go Go.Eng
noncomputable def E_r03_maybe : Env := envOf (P := Try.prog) [r03_Name_fact] [] [] ckf
def r03_maybeF (a0 : ByteArray) : Bool :=
  cond (decide (a0 = (⟨#[]⟩ : ByteArray))) true (r03_NameF a0)
def r03_maybeR (a0 : ByteArray) : RT :=
  (.need [((decide (a0 = (⟨#[]⟩ : ByteArray))) = false) → (a0.size < 4611686018427387904)]
    (.leaf .ret ⟨slots 9 [(2, .bool (cond (decide (a0 = (⟨#[]⟩ : ByteArray))) true (r03_NameF a0)))], []⟩ []))
theorem r03_maybeF_tr (a0 : ByteArray) (hp0 : a0.size ≤ 140737488351232) : Tr Try.prog 0 (bodyOf Try.f47) (fnBegins Try.f47 [.str a0] []) (fnEnds Try.prog Try.f47 (.bool (r03_maybeF a0)) []) := by
  refine Tr_tree (kok _ _ _ _ _ _) (E := E_r03_maybe) (L := noLoops) 60 9999 LoopsOk.none (r03_maybeR a0) (by kernel_rfl) (by kernel_rfl) (by kernel_rfl) ?_
  unfold r03_maybeR
  refine ⟨need_cons (by first | assumption | omega | (intro; omega) | (simp only [decide_eq_true_eq, decide_eq_false_iff_not, Bool.cond_false_right, Bool.cond_true_right, Bool.cond_true_left, Bool.cond_false_left, Bool.and_eq_true, Bool.or_eq_true, Bool.not_eq_true', bytesLim, maxLen, List.length_cons, List.length_nil, List.length_append, byteSize_lit] at *; omega) | (intro; simp only [decide_eq_true_eq, decide_eq_false_iff_not, Bool.cond_false_right, Bool.cond_true_right, Bool.cond_true_left, Bool.cond_false_left, Bool.and_eq_true, Bool.or_eq_true, Bool.not_eq_true', bytesLim, maxLen, List.length_cons, List.length_nil, List.length_append, byteSize_lit] at *; omega)) (need_nil), ?_⟩
  exact ⟨trivial, .inl (by kernel_rfl), by kernel_rfl⟩
noncomputable def r03_maybe_fact : Fact Try.prog := factOf 47 Try.f47 (by kernel_rfl) rfl (by kernel_rfl) [.c (.str)] [] true (fun t u => .bool (r03_maybeF t.1)) (fun t u => []) (fun t u => [t.1.size ≤ 140737488351232])
  (fun _ _ _ => rfl) (fun t u => by kernel_rfl) (fun t u => by kernel_rfl) (fun t u h => r03_maybeF_tr t.1 (h _ List.mem_cons_self))
noncomputable def E_r03_bare : Env := envOf (P := Try.prog) [] [] [] ckf
def r03_bareF (a0 : XObj) : XObj :=
  cond (a0.kind == (1 : Int))
    (⟨a0.kind, a0.name, a0.version, a0.born, a0.deleting, a0.hold, (⟨#[]⟩ : ByteArray), (0 : Int), (0 : Int), (0 : Int), a0.keep, a0.wait, a0.zone, (⟨#[]⟩ : ByteArray), (⟨#[]⟩ : ByteArray), (⟨#[]⟩ : ByteArray), (⟨#[]⟩ : ByteArray), (0 : Int), (0 : Int), (0 : Int)⟩ : XObj)
    (cond (a0.kind == (2 : Int))
      (⟨a0.kind, a0.name, a0.version, a0.born, a0.deleting, a0.hold, (⟨#[]⟩ : ByteArray), (0 : Int), (0 : Int), (0 : Int), false, false, a0.zone, (⟨#[]⟩ : ByteArray), (⟨#[]⟩ : ByteArray), (⟨#[]⟩ : ByteArray), (⟨#[]⟩ : ByteArray), (0 : Int), (0 : Int), (0 : Int)⟩ : XObj)
      (cond (a0.kind == (3 : Int))
        ({ a0 with keep := false, wait := false, claim := (⟨#[]⟩ : ByteArray), tag := (0 : Int) } : XObj)
        (cond (a0.kind == (4 : Int))
          ({ a0 with wait := false, node := (⟨#[]⟩ : ByteArray), volume := (⟨#[]⟩ : ByteArray), source := (⟨#[]⟩ : ByteArray), tag := (0 : Int) } : XObj)
          (cond (a0.kind == (5 : Int))
            ({ a0 with cls := (⟨#[]⟩ : ByteArray), size := (0 : Int), got := (0 : Int), mode := (0 : Int), keep := false, wait := false, zone := (⟨#[]⟩ : ByteArray), claim := (⟨#[]⟩ : ByteArray), source := (⟨#[]⟩ : ByteArray), tag := (0 : Int) } : XObj)
            (cond (a0.kind == (6 : Int))
              (⟨a0.kind, a0.name, a0.version, a0.born, a0.deleting, a0.hold, (⟨#[]⟩ : ByteArray), (0 : Int), (0 : Int), (0 : Int), false, false, (⟨#[]⟩ : ByteArray), a0.node, a0.claim, (⟨#[]⟩ : ByteArray), (⟨#[]⟩ : ByteArray), (0 : Int), (0 : Int), (0 : Int)⟩ : XObj)
              (cond (a0.kind == (7 : Int))
                ({ a0 with cls := (⟨#[]⟩ : ByteArray), size := (0 : Int), mode := (0 : Int), keep := false, wait := false, zone := (⟨#[]⟩ : ByteArray), node := (⟨#[]⟩ : ByteArray), claim := (⟨#[]⟩ : ByteArray) } : XObj)
                (⟨a0.kind, a0.name, a0.version, a0.born, a0.deleting, a0.hold, (⟨#[]⟩ : ByteArray), (0 : Int), (0 : Int), (0 : Int), false, false, (⟨#[]⟩ : ByteArray), (⟨#[]⟩ : ByteArray), (⟨#[]⟩ : ByteArray), (⟨#[]⟩ : ByteArray), (⟨#[]⟩ : ByteArray), (0 : Int), (0 : Int), (0 : Int)⟩ : XObj)))))))
def r03_bareR (a0 : XObj) : RT :=
  (.ask (a0.kind == (1 : Int))
    (.leaf .ret ⟨slots 139 [(2, .ptr 0 0)], [.cells 37 [.int .u8 a0.kind, .str a0.name, .int .u64 a0.version, .int .u64 a0.born, .bool a0.deleting, .bool a0.hold, .str (⟨#[]⟩ : ByteArray), .int .i64 0, .int .i64 0, .int .u8 0, .bool a0.keep, .bool a0.wait, .str a0.zone, .str (⟨#[]⟩ : ByteArray), .str (⟨#[]⟩ : ByteArray), .str (⟨#[]⟩ : ByteArray), .str (⟨#[]⟩ : ByteArray), .int .u8 0, .int .u64 0, .int .u64 0]]⟩ [1])
    (.ask (a0.kind == (2 : Int))
      (.leaf .ret ⟨slots 139 [(2, .ptr 0 0)], [.cells 37 [.int .u8 a0.kind, .str a0.name, .int .u64 a0.version, .int .u64 a0.born, .bool a0.deleting, .bool a0.hold, .str (⟨#[]⟩ : ByteArray), .int .i64 0, .int .i64 0, .int .u8 0, .bool false, .bool false, .str a0.zone, .str (⟨#[]⟩ : ByteArray), .str (⟨#[]⟩ : ByteArray), .str (⟨#[]⟩ : ByteArray), .str (⟨#[]⟩ : ByteArray), .int .u8 0, .int .u64 0, .int .u64 0]]⟩ [1])
      (.ask (a0.kind == (3 : Int))
        (.leaf .ret ⟨slots 139 [(2, .ptr 0 0)], [.cells 37 [.int .u8 a0.kind, .str a0.name, .int .u64 a0.version, .int .u64 a0.born, .bool a0.deleting, .bool a0.hold, .str a0.cls, .int .i64 a0.size, .int .i64 a0.got, .int .u8 a0.mode, .bool false, .bool false, .str a0.zone, .str a0.node, .str (⟨#[]⟩ : ByteArray), .str a0.volume, .str a0.source, .int .u8 a0.phase, .int .u64 a0.num, .int .u64 0]]⟩ [1])
        (.ask (a0.kind == (4 : Int))
          (.leaf .ret ⟨slots 139 [(2, .ptr 0 0)], [.cells 37 [.int .u8 a0.kind, .str a0.name, .int .u64 a0.version, .int .u64 a0.born, .bool a0.deleting, .bool a0.hold, .str a0.cls, .int .i64 a0.size, .int .i64 a0.got, .int .u8 a0.mode, .bool a0.keep, .bool false, .str a0.zone, .str (⟨#[]⟩ : ByteArray), .str a0.claim, .str (⟨#[]⟩ : ByteArray), .str (⟨#[]⟩ : ByteArray), .int .u8 a0.phase, .int .u64 a0.num, .int .u64 0]]⟩ [1])
          (.ask (a0.kind == (5 : Int))
            (.leaf .ret ⟨slots 139 [(2, .ptr 0 0)], [.cells 37 [.int .u8 a0.kind, .str a0.name, .int .u64 a0.version, .int .u64 a0.born, .bool a0.deleting, .bool a0.hold, .str (⟨#[]⟩ : ByteArray), .int .i64 0, .int .i64 0, .int .u8 0, .bool false, .bool false, .str (⟨#[]⟩ : ByteArray), .str a0.node, .str (⟨#[]⟩ : ByteArray), .str a0.volume, .str (⟨#[]⟩ : ByteArray), .int .u8 a0.phase, .int .u64 a0.num, .int .u64 0]]⟩ [1])
            (.ask (a0.kind == (6 : Int))
              (.leaf .ret ⟨slots 139 [(2, .ptr 0 0)], [.cells 37 [.int .u8 a0.kind, .str a0.name, .int .u64 a0.version, .int .u64 a0.born, .bool a0.deleting, .bool a0.hold, .str (⟨#[]⟩ : ByteArray), .int .i64 0, .int .i64 0, .int .u8 0, .bool false, .bool false, .str (⟨#[]⟩ : ByteArray), .str a0.node, .str a0.claim, .str (⟨#[]⟩ : ByteArray), .str (⟨#[]⟩ : ByteArray), .int .u8 0, .int .u64 0, .int .u64 0]]⟩ [1])
              (.ask (a0.kind == (7 : Int))
                (.leaf .ret ⟨slots 139 [(2, .ptr 0 0)], [.cells 37 [.int .u8 a0.kind, .str a0.name, .int .u64 a0.version, .int .u64 a0.born, .bool a0.deleting, .bool a0.hold, .str (⟨#[]⟩ : ByteArray), .int .i64 0, .int .i64 a0.got, .int .u8 0, .bool false, .bool false, .str (⟨#[]⟩ : ByteArray), .str (⟨#[]⟩ : ByteArray), .str (⟨#[]⟩ : ByteArray), .str a0.volume, .str a0.source, .int .u8 a0.phase, .int .u64 a0.num, .int .u64 a0.tag]]⟩ [1])
                (.leaf .ret ⟨slots 139 [(2, .ptr 0 0)], [.cells 37 [.int .u8 a0.kind, .str a0.name, .int .u64 a0.version, .int .u64 a0.born, .bool a0.deleting, .bool a0.hold, .str (⟨#[]⟩ : ByteArray), .int .i64 0, .int .i64 0, .int .u8 0, .bool false, .bool false, .str (⟨#[]⟩ : ByteArray), .str (⟨#[]⟩ : ByteArray), .str (⟨#[]⟩ : ByteArray), .str (⟨#[]⟩ : ByteArray), .str (⟨#[]⟩ : ByteArray), .int .u8 0, .int .u64 0, .int .u64 0]]⟩ [1]))))))))
theorem r03_bareF_tr (a0 : XObj)  : Tr Try.prog 0 (bodyOf Try.f48) (fnBegins Try.f48 [.agg (oc a0)] []) (fnEnds Try.prog Try.f48 (.agg (oc (r03_bareF a0))) []) := by
  refine Tr_tree (kok _ _ _ _ _ _) (E := E_r03_bare) (L := noLoops) 60 9999 LoopsOk.none (r03_bareR a0) (by kernel_rfl) (by kernel_rfl) (by kernel_rfl) ?_
  unfold r03_bareR
  refine ⟨fun h0 => ?_, fun h0 => ?_⟩
  · have hF : r03_bareF a0 = (⟨a0.kind, a0.name, a0.version, a0.born, a0.deleting, a0.hold, (⟨#[]⟩ : ByteArray), (0 : Int), (0 : Int), (0 : Int), a0.keep, a0.wait, a0.zone, (⟨#[]⟩ : ByteArray), (⟨#[]⟩ : ByteArray), (⟨#[]⟩ : ByteArray), (⟨#[]⟩ : ByteArray), (0 : Int), (0 : Int), (0 : Int)⟩ : XObj) := by first | exact (cond_t h0 rfl) | simp only [r03_bareF, h0, cond_true, cond_false]
    exact ⟨trivial, .inl (by first | (rw [hF]; kernel_rfl) | kernel_rfl), by first | (rw [hF]; kernel_rfl) | kernel_rfl⟩
  · refine ⟨fun h1 => ?_, fun h1 => ?_⟩
    · have hF : r03_bareF a0 = (⟨a0.kind, a0.name, a0.version, a0.born, a0.deleting, a0.hold, (⟨#[]⟩ : ByteArray), (0 : Int), (0 : Int), (0 : Int), false, false, a0.zone, (⟨#[]⟩ : ByteArray), (⟨#[]⟩ : ByteArray), (⟨#[]⟩ : ByteArray), (⟨#[]⟩ : ByteArray), (0 : Int), (0 : Int), (0 : Int)⟩ : XObj) := by first | exact (cond_f h0 (cond_t h1 rfl)) | simp only [r03_bareF, h0, h1, cond_true, cond_false]
      exact ⟨trivial, .inl (by first | (rw [hF]; kernel_rfl) | kernel_rfl), by first | (rw [hF]; kernel_rfl) | kernel_rfl⟩
    · refine ⟨fun h2 => ?_, fun h2 => ?_⟩
      · have hF : r03_bareF a0 = ({ a0 with keep := false, wait := false, claim := (⟨#[]⟩ : ByteArray), tag := (0 : Int) } : XObj) := by first | exact (cond_f h0 (cond_f h1 (cond_t h2 rfl))) | simp only [r03_bareF, h0, h1, h2, cond_true, cond_false]
        exact ⟨trivial, .inl (by first | (rw [hF]; kernel_rfl) | kernel_rfl), by first | (rw [hF]; kernel_rfl) | kernel_rfl⟩
      · refine ⟨fun h3 => ?_, fun h3 => ?_⟩
        · have hF : r03_bareF a0 = ({ a0 with wait := false, node := (⟨#[]⟩ : ByteArray), volume := (⟨#[]⟩ : ByteArray), source := (⟨#[]⟩ : ByteArray), tag := (0 : Int) } : XObj) := by first | exact (cond_f h0 (cond_f h1 (cond_f h2 (cond_t h3 rfl)))) | simp only [r03_bareF, h0, h1, h2, h3, cond_true, cond_false]
          exact ⟨trivial, .inl (by first | (rw [hF]; kernel_rfl) | kernel_rfl), by first | (rw [hF]; kernel_rfl) | kernel_rfl⟩
        · refine ⟨fun h4 => ?_, fun h4 => ?_⟩
          · have hF : r03_bareF a0 = ({ a0 with cls := (⟨#[]⟩ : ByteArray), size := (0 : Int), got := (0 : Int), mode := (0 : Int), keep := false, wait := false, zone := (⟨#[]⟩ : ByteArray), claim := (⟨#[]⟩ : ByteArray), source := (⟨#[]⟩ : ByteArray), tag := (0 : Int) } : XObj) := by first | exact (cond_f h0 (cond_f h1 (cond_f h2 (cond_f h3 (cond_t h4 rfl))))) | simp only [r03_bareF, h0, h1, h2, h3, h4, cond_true, cond_false]
            exact ⟨trivial, .inl (by first | (rw [hF]; kernel_rfl) | kernel_rfl), by first | (rw [hF]; kernel_rfl) | kernel_rfl⟩
          · refine ⟨fun h5 => ?_, fun h5 => ?_⟩
            · have hF : r03_bareF a0 = (⟨a0.kind, a0.name, a0.version, a0.born, a0.deleting, a0.hold, (⟨#[]⟩ : ByteArray), (0 : Int), (0 : Int), (0 : Int), false, false, (⟨#[]⟩ : ByteArray), a0.node, a0.claim, (⟨#[]⟩ : ByteArray), (⟨#[]⟩ : ByteArray), (0 : Int), (0 : Int), (0 : Int)⟩ : XObj) := by first | exact (cond_f h0 (cond_f h1 (cond_f h2 (cond_f h3 (cond_f h4 (cond_t h5 rfl)))))) | simp only [r03_bareF, h0, h1, h2, h3, h4, h5, cond_true, cond_false]
              exact ⟨trivial, .inl (by first | (rw [hF]; kernel_rfl) | kernel_rfl), by first | (rw [hF]; kernel_rfl) | kernel_rfl⟩
            · refine ⟨fun h6 => ?_, fun h6 => ?_⟩
              · have hF : r03_bareF a0 = ({ a0 with cls := (⟨#[]⟩ : ByteArray), size := (0 : Int), mode := (0 : Int), keep := false, wait := false, zone := (⟨#[]⟩ : ByteArray), node := (⟨#[]⟩ : ByteArray), claim := (⟨#[]⟩ : ByteArray) } : XObj) := by first | exact (cond_f h0 (cond_f h1 (cond_f h2 (cond_f h3 (cond_f h4 (cond_f h5 (cond_t h6 rfl))))))) | simp only [r03_bareF, h0, h1, h2, h3, h4, h5, h6, cond_true, cond_false]
                exact ⟨trivial, .inl (by first | (rw [hF]; kernel_rfl) | kernel_rfl), by first | (rw [hF]; kernel_rfl) | kernel_rfl⟩
              · have hF : r03_bareF a0 = (⟨a0.kind, a0.name, a0.version, a0.born, a0.deleting, a0.hold, (⟨#[]⟩ : ByteArray), (0 : Int), (0 : Int), (0 : Int), false, false, (⟨#[]⟩ : ByteArray), (⟨#[]⟩ : ByteArray), (⟨#[]⟩ : ByteArray), (⟨#[]⟩ : ByteArray), (⟨#[]⟩ : ByteArray), (0 : Int), (0 : Int), (0 : Int)⟩ : XObj) := by first | exact (cond_f h0 (cond_f h1 (cond_f h2 (cond_f h3 (cond_f h4 (cond_f h5 (cond_f h6 rfl))))))) | simp only [r03_bareF, h0, h1, h2, h3, h4, h5, h6, cond_true, cond_false]
                exact ⟨trivial, .inl (by first | (rw [hF]; kernel_rfl) | kernel_rfl), by first | (rw [hF]; kernel_rfl) | kernel_rfl⟩
noncomputable def r03_bare_fact : Fact Try.prog := factOf 48 Try.f48 (by kernel_rfl) rfl (by kernel_rfl) [.st .obj] [] true (fun t u => .agg (oc (r03_bareF t.1))) (fun t u => []) (fun t u => [])
  (fun _ _ _ => rfl) (fun t u => by kernel_rfl) (fun t u => by kernel_rfl) (fun t u h => r03_bareF_tr t.1 )
noncomputable def E_r03_plain : Env := envOf (P := Try.prog) [] [] [] ckf
def r03_plainLF (a0 : ByteArray) : Nat → Nat → Bool
  | 0, i => false
  | n + 1, i => cond ((byteAt a0 (i : Int)) == (47 : Int))
    true
    (r03_plainLF a0 n (i + 1))
def r03_plainLS (a0 : ByteArray) (i : Nat) : St :=
  ⟨slots 14 [(0, .str a0), (3, .int .i64 (i : Int))], []⟩
def r03_plainLR (a0 : ByteArray) (i : Nat) : RT :=
  (.ask (decide ((i : Int) < (a0.size : Int)))
    (.need [0 ≤ (i : Int) ∧ (i : Int) < (a0.size : Int)]
      (.ask ((byteAt a0 (i : Int)) == (47 : Int))
        (.leaf .ret ⟨slots 14 [(2, .bool false)], []⟩ [])
        (.leaf .normal ⟨slots 14 [(0, .str a0), (3, .int .i64 (IntKind.i64.wrap ((i : Int) + (1 : Int))))], []⟩ [])))
    (.leaf (.exit 0) ⟨slots 14 [], []⟩ []))
def r03_plainLT (a0 : ByteArray) (i : Nat) : Tree :=
  .ask (r03_plainLF a0 (a0.size - i) i) (.leaf .ret ⟨slots 14 [(2, .bool false)], []⟩) (.leaf (.exit 0) ⟨slots 14 [], []⟩)
theorem r03_plainL_loop (a0 : ByteArray) (hp0 : a0.size ≤ 140737488351232) (hlen : a0.size < 4611686018427387904) (z : { z : Nat // z ≤ a0.size }) (Q : Exit → St → Prop) (h : (r03_plainLT a0 z.1).All Q) : Tr Try.prog 0 (.loop (loopAt Try.f49 0)) (r03_plainLS a0 z.1) Q := by
  refine Tr_loopT (kok _ _ _ _ _ _) (E := E_r03_plain) (ι := { z : Nat // z ≤ a0.size }) 60 0 (fun _ => noLoops) (fun z => r03_plainLS a0 z.1) (fun z => r03_plainLT a0 z.1) (fun z => r03_plainLR a0 z.1) (fun z => a0.size - z.1) (fun _ => LoopsOk.none) (fun z => by obtain ⟨i, hi⟩ := z; kernel_rfl) (fun z => by obtain ⟨i, hi⟩ := z; kernel_rfl) (fun z => by obtain ⟨i, hi⟩ := z; kernel_rfl) ?_ z Q h
  rintro ⟨i, hi⟩ Q hT
  replace hT : (r03_plainLT a0 i).All Q := hT
  replace hi : i ≤ a0.size := hi
  show (r03_plainLR a0 i).All _
  unfold r03_plainLR
  refine ⟨fun h0 => ?_, fun h0 => ?_⟩
  · have hlt : i < a0.size := by simpa using h0
    have hd : a0.size - i = (a0.size - (i + 1)) + 1 := by omega
    have hw := wrap_succ (i := i) (by omega)
    refine ⟨need_cons (by first | assumption | omega | (intro; omega) | (simp only [decide_eq_true_eq, decide_eq_false_iff_not, Bool.cond_false_right, Bool.cond_true_right, Bool.cond_true_left, Bool.cond_false_left, Bool.and_eq_true, Bool.or_eq_true, Bool.not_eq_true', bytesLim, maxLen, List.length_cons, List.length_nil, List.length_append, byteSize_lit] at *; omega) | (intro; simp only [decide_eq_true_eq, decide_eq_false_iff_not, Bool.cond_false_right, Bool.cond_true_right, Bool.cond_true_left, Bool.cond_false_left, Bool.and_eq_true, Bool.or_eq_true, Bool.not_eq_true', bytesLim, maxLen, List.length_cons, List.length_nil, List.length_append, byteSize_lit] at *; omega)) (need_nil), ?_⟩
    refine ⟨fun h1 => ?_, fun h1 => ?_⟩
    · have hF : r03_plainLF a0 (a0.size - i) i = true := by rw [hd]; first | exact (cond_t h1 rfl) | simp only [r03_plainLF, h0, h1, cond_true, cond_false]
      unfold r03_plainLT at hT
      rw [hF] at hT
      exact hT.1 rfl
    · have hF : r03_plainLF a0 (a0.size - i) i = r03_plainLF a0 (a0.size - (i + 1)) (i + 1) := by rw [hd]; first | exact (cond_f h1 rfl) | simp only [r03_plainLF, h0, h1, cond_true, cond_false]
      refine ⟨⟨(i + 1), by show (i + 1) ≤ a0.size; omega⟩, by show a0.size - (i + 1) < a0.size - i; omega, ?_, ?_⟩
      · show _ = r03_plainLS a0 (i + 1)
        unfold r03_plainLS
        simp only [hw]
      · show (r03_plainLT a0 (i + 1)).All Q
        unfold r03_plainLT at hT ⊢
        rw [hF] at hT
        exact hT
  · have hge : ¬ i < a0.size := by simpa using h0
    have hd : a0.size - i = 0 := by omega
    have hF : r03_plainLF a0 (a0.size - i) i = false := by rw [hd]; first | exact rfl | simp only [r03_plainLF, h0, cond_true, cond_false]
    unfold r03_plainLT at hT
    rw [hF] at hT
    exact hT.2 rfl
def r03_plainF (a0 : ByteArray) : Bool :=
  cond (r03_plainLF a0 (a0.size) 0)
    false
    true
def r03_plainR (a0 : ByteArray) : RT :=
  (.ask (r03_plainLF a0 (a0.size) 0)
    (.leaf .ret ⟨slots 14 [(2, .bool false)], []⟩ [])
    (.leaf .ret ⟨slots 14 [(2, .bool true)], []⟩ []))
theorem r03_plainF_tr (a0 : ByteArray) (hp0 : a0.size ≤ 140737488351232) : Tr Try.prog 0 (bodyOf Try.f49) (fnBegins Try.f49 [.str a0] []) (fnEnds Try.prog Try.f49 (.bool (r03_plainF a0)) []) := by
  refine Tr_tree (kok _ _ _ _ _ _) (E := E_r03_plain) (L := (loopsOf [(0, r03_plainLS a0 0, [], r03_plainLT a0 0)])) 60 9999 (LoopsOk.one (g := loopAt Try.f49 0) (b := 0) (by kernel_rfl) (by kernel_rfl) (by kernel_rfl) (by kernel_rfl) (fun Q h => r03_plainL_loop a0 hp0 (by first | assumption | omega | (simp only [List.length_cons, List.length_nil, List.length_append]; omega)) ⟨0, by first | exact Nat.zero_le _ | (show 0 ≤ a0.size; omega) | (show 0 ≤ a0.size; exact ⟨Nat.zero_le _, by assumption⟩) | (show 0 ≤ a0.size; simp)⟩ Q h)) (r03_plainR a0) (by kernel_rfl) (by kernel_rfl) (by kernel_rfl) ?_
  unfold r03_plainR
  refine ⟨fun h0 => ?_, fun h0 => ?_⟩
  · have hF : r03_plainF a0 = false := by first | exact (cond_t h0 rfl) | simp only [r03_plainF, h0, cond_true, cond_false]
    exact ⟨trivial, .inl (by first | (rw [hF]; kernel_rfl) | kernel_rfl), by first | (rw [hF]; kernel_rfl) | kernel_rfl⟩
  · have hF : r03_plainF a0 = true := by first | exact (cond_f h0 rfl) | simp only [r03_plainF, h0, cond_true, cond_false]
    exact ⟨trivial, .inl (by first | (rw [hF]; kernel_rfl) | kernel_rfl), by first | (rw [hF]; kernel_rfl) | kernel_rfl⟩
noncomputable def r03_plain_fact : Fact Try.prog := factOf 49 Try.f49 (by kernel_rfl) rfl (by kernel_rfl) [.c (.str)] [] true (fun t u => .bool (r03_plainF t.1)) (fun t u => []) (fun t u => [t.1.size ≤ 140737488351232])
  (fun _ _ _ => rfl) (fun t u => by kernel_rfl) (fun t u => by kernel_rfl) (fun t u h => r03_plainF_tr t.1 (h _ List.mem_cons_self))
noncomputable def E_r03_Right : Env := envOf (P := Try.prog) [r03_maybe_fact, r03_Name_fact, r03_bare_fact, r03_plain_fact, r03_AttachName_fact] [] [] ckf
def r03_RightF (a0 : XObj) : Bool :=
  cond (cond (cond (cond (cond (cond (cond (!(r03_NameF a0.name)) true (!((a0.kind == ((r03_bareF a0).kind)) && ((decide (a0.name = ((r03_bareF a0).name))) && ((a0.version == ((r03_bareF a0).version)) && ((a0.born == ((r03_bareF a0).born)) && ((a0.deleting == ((r03_bareF a0).deleting)) && ((a0.hold == ((r03_bareF a0).hold)) && ((decide (a0.cls = ((r03_bareF a0).cls))) && ((a0.size == ((r03_bareF a0).size)) && ((a0.got == ((r03_bareF a0).got)) && ((a0.mode == ((r03_bareF a0).mode)) && ((a0.keep == ((r03_bareF a0).keep)) && ((a0.wait == ((r03_bareF a0).wait)) && ((decide (a0.zone = ((r03_bareF a0).zone))) && ((decide (a0.node = ((r03_bareF a0).node))) && ((decide (a0.claim = ((r03_bareF a0).claim))) && ((decide (a0.volume = ((r03_bareF a0).volume))) && ((decide (a0.source = ((r03_bareF a0).source))) && ((a0.phase == ((r03_bareF a0).phase)) && ((a0.num == ((r03_bareF a0).num)) && (a0.tag == ((r03_bareF a0).tag))))))))))))))))))))))) true (!(cond (cond (cond (cond (cond (r03_maybeF a0.cls) (r03_maybeF a0.zone) false) (r03_maybeF a0.node) false) (r03_maybeF a0.claim) false) (r03_maybeF a0.volume) false) (r03_maybeF a0.source) false))) true (decide (a0.size < (0 : Int)))) true (decide (a0.size > (1125899906842624 : Int)))) true (decide (a0.got < (0 : Int)))) true (decide (a0.got > (1125899906842624 : Int))))
    false
    (cond (a0.kind == (1 : Int))
      true
      (cond (a0.kind == (2 : Int))
        (cond (!(decide (a0.zone = (⟨#[]⟩ : ByteArray)))) (r03_plainF a0.name) false)
        (cond (a0.kind == (3 : Int))
          (cond (cond (cond (cond (!(decide (a0.cls = (⟨#[]⟩ : ByteArray)))) (!(a0.size == (0 : Int))) false) (cond (a0.mode == (1 : Int)) true (a0.mode == (2 : Int))) false) (cond (cond (a0.phase == (1 : Int)) true (a0.phase == (2 : Int))) true (a0.phase == (3 : Int))) false) ((!(decide (a0.volume = (⟨#[]⟩ : ByteArray)))) == (a0.phase == (3 : Int))) false)
          (cond (a0.kind == (4 : Int))
            (cond (cond (cond (cond (cond (cond (!(decide (a0.cls = (⟨#[]⟩ : ByteArray)))) (!(decide (a0.zone = (⟨#[]⟩ : ByteArray)))) false) (!(a0.size == (0 : Int))) false) (!(a0.got == (0 : Int))) false) (cond (a0.mode == (1 : Int)) true (a0.mode == (2 : Int))) false) (cond (cond (cond (a0.phase == (4 : Int)) true (a0.phase == (3 : Int))) true (a0.phase == (5 : Int))) true (a0.phase == (6 : Int))) false) (cond (!(decide (a0.claim = (⟨#[]⟩ : ByteArray)))) true (cond (!(a0.phase == (3 : Int))) (!(a0.phase == (5 : Int))) false)) false)
            (cond (a0.kind == (5 : Int))
              (cond (cond (cond (cond (!(decide (a0.volume = (⟨#[]⟩ : ByteArray)))) (!(decide (a0.node = (⟨#[]⟩ : ByteArray)))) false) (r03_plainF a0.node) false) (decide (a0.name = (r03_AttachNameF a0.volume a0.node))) false) (cond (cond (a0.phase == (7 : Int)) true (a0.phase == (8 : Int))) true (a0.phase == (9 : Int))) false)
              (cond (a0.kind == (6 : Int))
                (!(decide (a0.claim = (⟨#[]⟩ : ByteArray))))
                (cond (a0.kind == (7 : Int))
                  (cond (!(decide (a0.source = (⟨#[]⟩ : ByteArray)))) (cond (cond (cond (a0.phase == (1 : Int)) true (a0.phase == (10 : Int))) true (a0.phase == (11 : Int))) true (a0.phase == (6 : Int))) false)
                  false)))))))
def r03_RightR (a0 : XObj) : RT :=
  (.need [a0.cls.size ≤ 140737488351232]
    (.need [((r03_maybeF a0.cls) = true) → (a0.zone.size ≤ 140737488351232)]
      (.need [((cond (r03_maybeF a0.cls) (r03_maybeF a0.zone) false) = true) → (a0.node.size ≤ 140737488351232)]
        (.need [((cond (cond (r03_maybeF a0.cls) (r03_maybeF a0.zone) false) (r03_maybeF a0.node) false) = true) → (a0.claim.size ≤ 140737488351232)]
          (.need [((cond (cond (cond (r03_maybeF a0.cls) (r03_maybeF a0.zone) false) (r03_maybeF a0.node) false) (r03_maybeF a0.claim) false) = true) → (a0.volume.size ≤ 140737488351232)]
            (.need [((cond (cond (cond (cond (r03_maybeF a0.cls) (r03_maybeF a0.zone) false) (r03_maybeF a0.node) false) (r03_maybeF a0.claim) false) (r03_maybeF a0.volume) false) = true) → (a0.source.size ≤ 140737488351232)]
              (.need [a0.name.size < 4611686018427387904]
                (.ask (cond (cond (cond (cond (cond (cond (!(r03_NameF a0.name)) true (!((a0.kind == ((r03_bareF a0).kind)) && ((decide (a0.name = ((r03_bareF a0).name))) && ((a0.version == ((r03_bareF a0).version)) && ((a0.born == ((r03_bareF a0).born)) && ((a0.deleting == ((r03_bareF a0).deleting)) && ((a0.hold == ((r03_bareF a0).hold)) && ((decide (a0.cls = ((r03_bareF a0).cls))) && ((a0.size == ((r03_bareF a0).size)) && ((a0.got == ((r03_bareF a0).got)) && ((a0.mode == ((r03_bareF a0).mode)) && ((a0.keep == ((r03_bareF a0).keep)) && ((a0.wait == ((r03_bareF a0).wait)) && ((decide (a0.zone = ((r03_bareF a0).zone))) && ((decide (a0.node = ((r03_bareF a0).node))) && ((decide (a0.claim = ((r03_bareF a0).claim))) && ((decide (a0.volume = ((r03_bareF a0).volume))) && ((decide (a0.source = ((r03_bareF a0).source))) && ((a0.phase == ((r03_bareF a0).phase)) && ((a0.num == ((r03_bareF a0).num)) && (a0.tag == ((r03_bareF a0).tag))))))))))))))))))))))) true (!(cond (cond (cond (cond (cond (r03_maybeF a0.cls) (r03_maybeF a0.zone) false) (r03_maybeF a0.node) false) (r03_maybeF a0.claim) false) (r03_maybeF a0.volume) false) (r03_maybeF a0.source) false))) true (decide (a0.size < (0 : Int)))) true (decide (a0.size > (1125899906842624 : Int)))) true (decide (a0.got < (0 : Int)))) true (decide (a0.got > (1125899906842624 : Int))))
                  (.leaf .ret ⟨slots 262 [(2, .bool false)], []⟩ [])
                  (.ask (a0.kind == (1 : Int))
                    (.leaf .ret ⟨slots 262 [(2, .bool true)], []⟩ [])
                    (.ask (a0.kind == (2 : Int))
                      (.need [((!(decide (a0.zone = (⟨#[]⟩ : ByteArray)))) = true) → (a0.name.size ≤ 140737488351232)]
                        (.leaf .ret ⟨slots 262 [(2, .bool (cond (!(decide (a0.zone = (⟨#[]⟩ : ByteArray)))) (r03_plainF a0.name) false))], []⟩ []))
                      (.ask (a0.kind == (3 : Int))
                        (.leaf .ret ⟨slots 262 [(2, .bool (cond (cond (cond (cond (!(decide (a0.cls = (⟨#[]⟩ : ByteArray)))) (!(a0.size == (0 : Int))) false) (cond (a0.mode == (1 : Int)) true (a0.mode == (2 : Int))) false) (cond (cond (a0.phase == (1 : Int)) true (a0.phase == (2 : Int))) true (a0.phase == (3 : Int))) false) ((!(decide (a0.volume = (⟨#[]⟩ : ByteArray)))) == (a0.phase == (3 : Int))) false))], []⟩ [])
                        (.ask (a0.kind == (4 : Int))
                          (.leaf .ret ⟨slots 262 [(2, .bool (cond (cond (cond (cond (cond (cond (!(decide (a0.cls = (⟨#[]⟩ : ByteArray)))) (!(decide (a0.zone = (⟨#[]⟩ : ByteArray)))) false) (!(a0.size == (0 : Int))) false) (!(a0.got == (0 : Int))) false) (cond (a0.mode == (1 : Int)) true (a0.mode == (2 : Int))) false) (cond (cond (cond (a0.phase == (4 : Int)) true (a0.phase == (3 : Int))) true (a0.phase == (5 : Int))) true (a0.phase == (6 : Int))) false) (cond (!(decide (a0.claim = (⟨#[]⟩ : ByteArray)))) true (cond (!(a0.phase == (3 : Int))) (!(a0.phase == (5 : Int))) false)) false))], []⟩ [])
                          (.ask (a0.kind == (5 : Int))
                            (.need [((cond (!(decide (a0.volume = (⟨#[]⟩ : ByteArray)))) (!(decide (a0.node = (⟨#[]⟩ : ByteArray)))) false) = true) → (a0.node.size ≤ 140737488351232), ((cond (cond (!(decide (a0.volume = (⟨#[]⟩ : ByteArray)))) (!(decide (a0.node = (⟨#[]⟩ : ByteArray)))) false) (r03_plainF a0.node) false) = true) → (a0.volume.size ≤ 140737488351232), ((cond (cond (!(decide (a0.volume = (⟨#[]⟩ : ByteArray)))) (!(decide (a0.node = (⟨#[]⟩ : ByteArray)))) false) (r03_plainF a0.node) false) = true) → (a0.node.size ≤ 140737488351232)]
                              (.leaf .ret ⟨slots 262 [(2, .bool (cond (cond (cond (cond (!(decide (a0.volume = (⟨#[]⟩ : ByteArray)))) (!(decide (a0.node = (⟨#[]⟩ : ByteArray)))) false) (r03_plainF a0.node) false) (decide (a0.name = (r03_AttachNameF a0.volume a0.node))) false) (cond (cond (a0.phase == (7 : Int)) true (a0.phase == (8 : Int))) true (a0.phase == (9 : Int))) false))], []⟩ []))
                            (.ask (a0.kind == (6 : Int))
                              (.leaf .ret ⟨slots 262 [(2, .bool (!(decide (a0.claim = (⟨#[]⟩ : ByteArray)))))], []⟩ [])
                              (.ask (a0.kind == (7 : Int))
                                (.leaf .ret ⟨slots 262 [(2, .bool (cond (!(decide (a0.source = (⟨#[]⟩ : ByteArray)))) (cond (cond (cond (a0.phase == (1 : Int)) true (a0.phase == (10 : Int))) true (a0.phase == (11 : Int))) true (a0.phase == (6 : Int))) false))], []⟩ [])
                                (.leaf .ret ⟨slots 262 [(2, .bool false)], []⟩ []))))))))))))))))
theorem r03_RightF_tr (a0 : XObj) (hp0 : a0.Fine) : Tr Try.prog 0 (bodyOf Try.f21) (fnBegins Try.f21 [.agg (oc a0)] []) (fnEnds Try.prog Try.f21 (.bool (r03_RightF a0)) []) := by
  refine Tr_tree (kok _ _ _ _ _ _) (E := E_r03_Right) (L := noLoops) 60 9999 LoopsOk.none (r03_RightR a0) (by kernel_rfl) (by kernel_rfl) (by kernel_rfl) ?_
  unfold r03_RightR
  refine ⟨need_cons (by first | (have hz := hp0; unfold XObj.Fine at hz; omega) | (intros; have hz := hp0; unfold XObj.Fine at hz; omega)) (need_nil), ?_⟩
  refine ⟨need_cons (by first | (have hz := hp0; unfold XObj.Fine at hz; omega) | (intros; have hz := hp0; unfold XObj.Fine at hz; omega)) (need_nil), ?_⟩
  refine ⟨need_cons (by first | (have hz := hp0; unfold XObj.Fine at hz; omega) | (intros; have hz := hp0; unfold XObj.Fine at hz; omega)) (need_nil), ?_⟩
  refine ⟨need_cons (by first | (have hz := hp0; unfold XObj.Fine at hz; omega) | (intros; have hz := hp0; unfold XObj.Fine at hz; omega)) (need_nil), ?_⟩
  refine ⟨need_cons (by first | (have hz := hp0; unfold XObj.Fine at hz; omega) | (intros; have hz := hp0; unfold XObj.Fine at hz; omega)) (need_nil), ?_⟩
  refine ⟨need_cons (by first | (have hz := hp0; unfold XObj.Fine at hz; omega) | (intros; have hz := hp0; unfold XObj.Fine at hz; omega)) (need_nil), ?_⟩
  refine ⟨need_cons (by first | (have hz := hp0; unfold XObj.Fine at hz; omega) | (intros; have hz := hp0; unfold XObj.Fine at hz; omega)) (need_nil), ?_⟩
  refine ⟨fun h0 => ?_, fun h0 => ?_⟩
  · have hF : r03_RightF a0 = false := by first | exact (cond_t h0 rfl) | simp only [r03_RightF, h0, cond_true, cond_false]
    exact ⟨trivial, .inl (by first | (rw [hF]; kernel_rfl) | kernel_rfl), by first | (rw [hF]; kernel_rfl) | kernel_rfl⟩
  · refine ⟨fun h1 => ?_, fun h1 => ?_⟩
    · have hF : r03_RightF a0 = true := by first | exact (cond_f h0 (cond_t h1 rfl)) | simp only [r03_RightF, h0, h1, cond_true, cond_false]
      exact ⟨trivial, .inl (by first | (rw [hF]; kernel_rfl) | kernel_rfl), by first | (rw [hF]; kernel_rfl) | kernel_rfl⟩
    · refine ⟨fun h2 => ?_, fun h2 => ?_⟩
      · refine ⟨need_cons (by first | (have hz := hp0; unfold XObj.Fine at hz; omega) | (intros; have hz := hp0; unfold XObj.Fine at hz; omega)) (need_nil), ?_⟩
        have hF : r03_RightF a0 = (cond (!(decide (a0.zone = (⟨#[]⟩ : ByteArray)))) (r03_plainF a0.name) false) := by first | exact (cond_f h0 (cond_f h1 (cond_t h2 rfl))) | simp only [r03_RightF, h0, h1, h2, cond_true, cond_false]
        exact ⟨trivial, .inl (by first | (rw [hF]; kernel_rfl) | kernel_rfl), by first | (rw [hF]; kernel_rfl) | kernel_rfl⟩
      · refine ⟨fun h3 => ?_, fun h3 => ?_⟩
        · have hF : r03_RightF a0 = (cond (cond (cond (cond (!(decide (a0.cls = (⟨#[]⟩ : ByteArray)))) (!(a0.size == (0 : Int))) false) (cond (a0.mode == (1 : Int)) true (a0.mode == (2 : Int))) false) (cond (cond (a0.phase == (1 : Int)) true (a0.phase == (2 : Int))) true (a0.phase == (3 : Int))) false) ((!(decide (a0.volume = (⟨#[]⟩ : ByteArray)))) == (a0.phase == (3 : Int))) false) := by first | exact (cond_f h0 (cond_f h1 (cond_f h2 (cond_t h3 rfl)))) | simp only [r03_RightF, h0, h1, h2, h3, cond_true, cond_false]
          exact ⟨trivial, .inl (by first | (rw [hF]; kernel_rfl) | kernel_rfl), by first | (rw [hF]; kernel_rfl) | kernel_rfl⟩
        · refine ⟨fun h4 => ?_, fun h4 => ?_⟩
          · have hF : r03_RightF a0 = (cond (cond (cond (cond (cond (cond (!(decide (a0.cls = (⟨#[]⟩ : ByteArray)))) (!(decide (a0.zone = (⟨#[]⟩ : ByteArray)))) false) (!(a0.size == (0 : Int))) false) (!(a0.got == (0 : Int))) false) (cond (a0.mode == (1 : Int)) true (a0.mode == (2 : Int))) false) (cond (cond (cond (a0.phase == (4 : Int)) true (a0.phase == (3 : Int))) true (a0.phase == (5 : Int))) true (a0.phase == (6 : Int))) false) (cond (!(decide (a0.claim = (⟨#[]⟩ : ByteArray)))) true (cond (!(a0.phase == (3 : Int))) (!(a0.phase == (5 : Int))) false)) false) := by first | exact (cond_f h0 (cond_f h1 (cond_f h2 (cond_f h3 (cond_t h4 rfl))))) | simp only [r03_RightF, h0, h1, h2, h3, h4, cond_true, cond_false]
            exact ⟨trivial, .inl (by first | (rw [hF]; kernel_rfl) | kernel_rfl), by first | (rw [hF]; kernel_rfl) | kernel_rfl⟩
          · refine ⟨fun h5 => ?_, fun h5 => ?_⟩
            · refine ⟨need_cons (by first | (have hz := hp0; unfold XObj.Fine at hz; omega) | (intros; have hz := hp0; unfold XObj.Fine at hz; omega)) (need_cons (by first | (have hz := hp0; unfold XObj.Fine at hz; omega) | (intros; have hz := hp0; unfold XObj.Fine at hz; omega)) (need_cons (by first | (have hz := hp0; unfold XObj.Fine at hz; omega) | (intros; have hz := hp0; unfold XObj.Fine at hz; omega)) (need_nil))), ?_⟩
              have hF : r03_RightF a0 = (cond (cond (cond (cond (!(decide (a0.volume = (⟨#[]⟩ : ByteArray)))) (!(decide (a0.node = (⟨#[]⟩ : ByteArray)))) false) (r03_plainF a0.node) false) (decide (a0.name = (r03_AttachNameF a0.volume a0.node))) false) (cond (cond (a0.phase == (7 : Int)) true (a0.phase == (8 : Int))) true (a0.phase == (9 : Int))) false) := by first | exact (cond_f h0 (cond_f h1 (cond_f h2 (cond_f h3 (cond_f h4 (cond_t h5 rfl)))))) | simp only [r03_RightF, h0, h1, h2, h3, h4, h5, cond_true, cond_false]
              exact ⟨trivial, .inl (by first | (rw [hF]; kernel_rfl) | kernel_rfl), by first | (rw [hF]; kernel_rfl) | kernel_rfl⟩
            · refine ⟨fun h6 => ?_, fun h6 => ?_⟩
              · have hF : r03_RightF a0 = (!(decide (a0.claim = (⟨#[]⟩ : ByteArray)))) := by first | exact (cond_f h0 (cond_f h1 (cond_f h2 (cond_f h3 (cond_f h4 (cond_f h5 (cond_t h6 rfl))))))) | simp only [r03_RightF, h0, h1, h2, h3, h4, h5, h6, cond_true, cond_false]
                exact ⟨trivial, .inl (by first | (rw [hF]; kernel_rfl) | kernel_rfl), by first | (rw [hF]; kernel_rfl) | kernel_rfl⟩
              · refine ⟨fun h7 => ?_, fun h7 => ?_⟩
                · have hF : r03_RightF a0 = (cond (!(decide (a0.source = (⟨#[]⟩ : ByteArray)))) (cond (cond (cond (a0.phase == (1 : Int)) true (a0.phase == (10 : Int))) true (a0.phase == (11 : Int))) true (a0.phase == (6 : Int))) false) := by first | exact (cond_f h0 (cond_f h1 (cond_f h2 (cond_f h3 (cond_f h4 (cond_f h5 (cond_f h6 (cond_t h7 rfl)))))))) | simp only [r03_RightF, h0, h1, h2, h3, h4, h5, h6, h7, cond_true, cond_false]
                  exact ⟨trivial, .inl (by first | (rw [hF]; kernel_rfl) | kernel_rfl), by first | (rw [hF]; kernel_rfl) | kernel_rfl⟩
                · have hF : r03_RightF a0 = false := by first | exact (cond_f h0 (cond_f h1 (cond_f h2 (cond_f h3 (cond_f h4 (cond_f h5 (cond_f h6 (cond_f h7 rfl)))))))) | simp only [r03_RightF, h0, h1, h2, h3, h4, h5, h6, h7, cond_true, cond_false]
                  exact ⟨trivial, .inl (by first | (rw [hF]; kernel_rfl) | kernel_rfl), by first | (rw [hF]; kernel_rfl) | kernel_rfl⟩
noncomputable def r03_Right_fact : Fact Try.prog := factOf 21 Try.f21 (by kernel_rfl) rfl (by kernel_rfl) [.st .obj] [] true (fun t u => .bool (r03_RightF t.1)) (fun t u => []) (fun t u => [t.1.Fine])
  (fun _ _ _ => rfl) (fun t u => by kernel_rfl) (fun t u => by kernel_rfl) (fun t u h => r03_RightF_tr t.1 (h _ List.mem_cons_self))
noncomputable def E_w13_AttachRight : Env := envOf (P := Try.prog) [w13_few_fact, r03_Right_fact, w13_live_fact, attach_Volume_fact] [] [] ckf
def w13_AttachRightLF  : List XObj → Bool
  | [] => false
  | o :: r => cond (!(r03_RightF o))
    true
    (w13_AttachRightLF r)
def w13_AttachRightLS (a0 : List XObj) (a1 : Int) (a2 : ByteArray) (i : Nat) : St :=
  ⟨slots 64 [(0, .coll ⟨.obj, w13_fewF a0⟩), (1, .int .u64 a1), (2, .str a2), (7, .int .i64 (i : Int))], []⟩
def w13_AttachRightLR (a0 : List XObj) (a1 : Int) (a2 : ByteArray) (i : Nat) : RT :=
  (.ask (decide ((i : Int) < ((w13_fewF a0).length : Int)))
    (.need [0 ≤ (i : Int) ∧ (i : Int) < ((w13_fewF a0).length : Int)]
      (.need [((w13_fewF a0).getD i default).Fine]
        (.ask (!(r03_RightF ((w13_fewF a0).getD i default)))
          (.leaf .ret ⟨slots 64 [(6, .bool w13_liveF)], []⟩ [])
          (.leaf .normal ⟨slots 64 [(0, .coll ⟨.obj, w13_fewF a0⟩), (1, .int .u64 a1), (2, .str a2), (7, .int .i64 (IntKind.i64.wrap ((i : Int) + (1 : Int))))], []⟩ []))))
    (.leaf (.exit 0) ⟨slots 64 [(0, .coll ⟨.obj, w13_fewF a0⟩), (1, .int .u64 a1), (2, .str a2)], []⟩ []))
def w13_AttachRightLT (a0 : List XObj) (a1 : Int) (a2 : ByteArray) (i : Nat) : Tree :=
  .ask (w13_AttachRightLF ((w13_fewF a0).drop i)) (.leaf .ret ⟨slots 64 [(6, .bool w13_liveF)], []⟩) (.leaf (.exit 0) ⟨slots 64 [(0, .coll ⟨.obj, w13_fewF a0⟩), (1, .int .u64 a1), (2, .str a2)], []⟩)
theorem w13_AttachRightL_loop (a0 : List XObj) (a1 : Int) (a2 : ByteArray) (hp0 : ∀ o ∈ a0, o.Fine) (hp1 : a2.size ≤ 140737488351232) (hlen : (w13_fewF a0).length < 4611686018427387904) (z : { z : Nat // z ≤ (w13_fewF a0).length }) (Q : Exit → St → Prop) (h : (w13_AttachRightLT a0 a1 a2 z.1).All Q) : Tr Try.prog 0 (.loop (loopAt Try.f7 0)) (w13_AttachRightLS a0 a1 a2 z.1) Q := by
  refine Tr_loopT (kok _ _ _ _ _ _) (E := E_w13_AttachRight) (ι := { z : Nat // z ≤ (w13_fewF a0).length }) 60 0 (fun _ => noLoops) (fun z => w13_AttachRightLS a0 a1 a2 z.1) (fun z => w13_AttachRightLT a0 a1 a2 z.1) (fun z => w13_AttachRightLR a0 a1 a2 z.1) (fun z => (w13_fewF a0).length - z.1) (fun _ => LoopsOk.none) (fun z => by obtain ⟨i, hi⟩ := z; kernel_rfl) (fun z => by obtain ⟨i, hi⟩ := z; kernel_rfl) (fun z => by obtain ⟨i, hi⟩ := z; kernel_rfl) ?_ z Q h
  rintro ⟨i, hi⟩ Q hT
  replace hT : (w13_AttachRightLT a0 a1 a2 i).All Q := hT
  replace hi : i ≤ (w13_fewF a0).length := hi
  show (w13_AttachRightLR a0 a1 a2 i).All _
  unfold w13_AttachRightLR
  refine ⟨fun h0 => ?_, fun h0 => ?_⟩
  · have hlt : i < (w13_fewF a0).length := by simpa using h0
    have hd := drop_getD hlt
    have hw := wrap_succ (i := i) (by omega)
    refine ⟨need_cons (by exact ⟨by omega, by omega⟩) (need_nil), ?_⟩
    refine ⟨need_cons (by exact w13_few_fine (by assumption) _ (gD_mem hlt)) (need_nil), ?_⟩
    refine ⟨fun h1 => ?_, fun h1 => ?_⟩
    · have hF : w13_AttachRightLF ((w13_fewF a0).drop i) = true := by rw [hd]; first | exact (cond_t h1 rfl) | simp only [w13_AttachRightLF, h0, h1, cond_true, cond_false]
      unfold w13_AttachRightLT at hT
      rw [hF] at hT
      exact hT.1 rfl
    · have hF : w13_AttachRightLF ((w13_fewF a0).drop i) = w13_AttachRightLF ((w13_fewF a0).drop (i + 1)) := by rw [hd]; first | exact (cond_f h1 rfl) | simp only [w13_AttachRightLF, h0, h1, cond_true, cond_false]
      refine ⟨⟨(i + 1), by show (i + 1) ≤ (w13_fewF a0).length; omega⟩, by show (w13_fewF a0).length - (i + 1) < (w13_fewF a0).length - i; omega, ?_, ?_⟩
      · show _ = w13_AttachRightLS a0 a1 a2 (i + 1)
        unfold w13_AttachRightLS
        simp only [hw]
      · show (w13_AttachRightLT a0 a1 a2 (i + 1)).All Q
        unfold w13_AttachRightLT at hT ⊢
        rw [hF] at hT
        exact hT
  · have hge : ¬ i < (w13_fewF a0).length := by simpa using h0
    have hd : (w13_fewF a0).drop i = [] := List.drop_eq_nil_of_le (by omega)
    have hF : w13_AttachRightLF ((w13_fewF a0).drop i) = false := by rw [hd]; first | exact rfl | simp only [w13_AttachRightLF, h0, cond_true, cond_false]
    unfold w13_AttachRightLT at hT
    rw [hF] at hT
    exact hT.2 rfl
def w13_AttachRightL1F (a0 : List XObj) (a1 : Int) (a2 : ByteArray) : Nat → Nat → Bool
  | 0, i1 => false
  | n + 1, i1 => cond ((byteAt ((attach_VolumeF (w13_fewF a0) a1 a2).obj.node) (i1 : Int)) == (47 : Int))
    true
    (w13_AttachRightL1F a0 a1 a2 n (i1 + 1))
def w13_AttachRightL1S (a0 : List XObj) (a1 : Int) (a2 : ByteArray) (i1 : Nat) : St :=
  ⟨slots 64 [(8, .ptr 0 0), (9, .int .i64 (i1 : Int))], [.cells 42 (ac (attach_VolumeF (w13_fewF a0) a1 a2))]⟩
def w13_AttachRightL1R (a0 : List XObj) (a1 : Int) (a2 : ByteArray) (i1 : Nat) : RT :=
  (.ask (decide ((i1 : Int) < (((attach_VolumeF (w13_fewF a0) a1 a2).obj.node).size : Int)))
    (.need [0 ≤ (i1 : Int) ∧ (i1 : Int) < (((attach_VolumeF (w13_fewF a0) a1 a2).obj.node).size : Int)]
      (.ask ((byteAt ((attach_VolumeF (w13_fewF a0) a1 a2).obj.node) (i1 : Int)) == (47 : Int))
        (.leaf .ret ⟨slots 64 [(6, .bool w13_liveF)], []⟩ [])
        (.leaf .normal ⟨slots 64 [(8, .ptr 0 0), (9, .int .i64 (IntKind.i64.wrap ((i1 : Int) + (1 : Int))))], [.cells 42 (ac (attach_VolumeF (w13_fewF a0) a1 a2))]⟩ [])))
    (.leaf (.exit 2) ⟨slots 64 [(8, .ptr 0 0)], [.cells 42 (ac (attach_VolumeF (w13_fewF a0) a1 a2))]⟩ []))
def w13_AttachRightL1T (a0 : List XObj) (a1 : Int) (a2 : ByteArray) (i1 : Nat) : Tree :=
  .ask (w13_AttachRightL1F a0 a1 a2 (((attach_VolumeF (w13_fewF a0) a1 a2).obj.node).size - i1) i1) (.leaf .ret ⟨slots 64 [(6, .bool w13_liveF)], []⟩) (.leaf (.exit 2) ⟨slots 64 [(8, .ptr 0 0)], [.cells 42 (ac (attach_VolumeF (w13_fewF a0) a1 a2))]⟩)
theorem w13_AttachRightL1_loop (a0 : List XObj) (a1 : Int) (a2 : ByteArray) (hp0 : ∀ o ∈ a0, o.Fine) (hp1 : a2.size ≤ 140737488351232) (hlen : ((attach_VolumeF (w13_fewF a0) a1 a2).obj.node).size < 4611686018427387904) (z : { z : Nat // z ≤ ((attach_VolumeF (w13_fewF a0) a1 a2).obj.node).size }) (Q : Exit → St → Prop) (h : (w13_AttachRightL1T a0 a1 a2 z.1).All Q) : Tr Try.prog 0 (.loop (loopAt Try.f7 1)) (w13_AttachRightL1S a0 a1 a2 z.1) Q := by
  refine Tr_loopT (kok _ _ _ _ _ _) (E := E_w13_AttachRight) (ι := { z : Nat // z ≤ ((attach_VolumeF (w13_fewF a0) a1 a2).obj.node).size }) 60 2 (fun _ => noLoops) (fun z => w13_AttachRightL1S a0 a1 a2 z.1) (fun z => w13_AttachRightL1T a0 a1 a2 z.1) (fun z => w13_AttachRightL1R a0 a1 a2 z.1) (fun z => ((attach_VolumeF (w13_fewF a0) a1 a2).obj.node).size - z.1) (fun _ => LoopsOk.none) (fun z => by obtain ⟨i1, hi⟩ := z; kernel_rfl) (fun z => by obtain ⟨i1, hi⟩ := z; kernel_rfl) (fun z => by obtain ⟨i1, hi⟩ := z; kernel_rfl) ?_ z Q h
  rintro ⟨i1, hi⟩ Q hT
  replace hT : (w13_AttachRightL1T a0 a1 a2 i1).All Q := hT
  replace hi : i1 ≤ ((attach_VolumeF (w13_fewF a0) a1 a2).obj.node).size := hi
  show (w13_AttachRightL1R a0 a1 a2 i1).All _
  unfold w13_AttachRightL1R
  refine ⟨fun h0 => ?_, fun h0 => ?_⟩
  · have hlt : i1 < ((attach_VolumeF (w13_fewF a0) a1 a2).obj.node).size := by simpa using h0
    have hd : ((attach_VolumeF (w13_fewF a0) a1 a2).obj.node).size - i1 = (((attach_VolumeF (w13_fewF a0) a1 a2).obj.node).size - (i1 + 1)) + 1 := by omega
    have hw := wrap_succ (i := i1) (by omega)
    refine ⟨need_cons (by exact ⟨by omega, by omega⟩) (need_nil), ?_⟩
    refine ⟨fun h1 => ?_, fun h1 => ?_⟩
    · have hF : w13_AttachRightL1F a0 a1 a2 (((attach_VolumeF (w13_fewF a0) a1 a2).obj.node).size - i1) i1 = true := by rw [hd]; first | exact (cond_t h1 rfl) | simp only [w13_AttachRightL1F, h0, h1, cond_true, cond_false]
      unfold w13_AttachRightL1T at hT
      rw [hF] at hT
      exact hT.1 rfl
    · have hF : w13_AttachRightL1F a0 a1 a2 (((attach_VolumeF (w13_fewF a0) a1 a2).obj.node).size - i1) i1 = w13_AttachRightL1F a0 a1 a2 (((attach_VolumeF (w13_fewF a0) a1 a2).obj.node).size - (i1 + 1)) (i1 + 1) := by rw [hd]; first | exact (cond_f h1 rfl) | simp only [w13_AttachRightL1F, h0, h1, cond_true, cond_false]
      refine ⟨⟨(i1 + 1), by show (i1 + 1) ≤ ((attach_VolumeF (w13_fewF a0) a1 a2).obj.node).size; omega⟩, by show ((attach_VolumeF (w13_fewF a0) a1 a2).obj.node).size - (i1 + 1) < ((attach_VolumeF (w13_fewF a0) a1 a2).obj.node).size - i1; omega, ?_, ?_⟩
      · show _ = w13_AttachRightL1S a0 a1 a2 (i1 + 1)
        unfold w13_AttachRightL1S
        simp only [hw]
      · show (w13_AttachRightL1T a0 a1 a2 (i1 + 1)).All Q
        unfold w13_AttachRightL1T at hT ⊢
        rw [hF] at hT
        exact hT
  · have hge : ¬ i1 < ((attach_VolumeF (w13_fewF a0) a1 a2).obj.node).size := by simpa using h0
    have hd : ((attach_VolumeF (w13_fewF a0) a1 a2).obj.node).size - i1 = 0 := by omega
    have hF : w13_AttachRightL1F a0 a1 a2 (((attach_VolumeF (w13_fewF a0) a1 a2).obj.node).size - i1) i1 = false := by rw [hd]; first | exact rfl | simp only [w13_AttachRightL1F, h0, cond_true, cond_false]
    unfold w13_AttachRightL1T at hT
    rw [hF] at hT
    exact hT.2 rfl
def w13_AttachRightF (a0 : List XObj) (a1 : Int) (a2 : ByteArray) : Bool :=
  cond (w13_AttachRightLF (w13_fewF a0))
    w13_liveF
    (cond (cond (((attach_VolumeF (w13_fewF a0) a1 a2).act) == (1 : Int)) (((attach_VolumeF (w13_fewF a0) a1 a2).obj.version) == (0 : Int)) false)
      (cond (w13_AttachRightL1F a0 a1 a2 (((attach_VolumeF (w13_fewF a0) a1 a2).obj.node).size) 0)
        w13_liveF
        (cond w13_liveF (cond (!(((attach_VolumeF (w13_fewF a0) a1 a2).act) == (1 : Int))) true (r03_RightF (attach_VolumeF (w13_fewF a0) a1 a2).obj)) false))
      (cond w13_liveF (cond (!(((attach_VolumeF (w13_fewF a0) a1 a2).act) == (1 : Int))) true (r03_RightF (attach_VolumeF (w13_fewF a0) a1 a2).obj)) false))
def w13_AttachRightR (a0 : List XObj) (a1 : Int) (a2 : ByteArray) : RT :=
  (.ask (w13_AttachRightLF (w13_fewF a0))
    (.leaf .ret ⟨slots 64 [(6, .bool w13_liveF)], []⟩ [])
    (.need [(w13_fewF a0).length ≤ 64, ∀ o ∈ (w13_fewF a0), o.Fine, a2.size ≤ 140737488351232]
      (.ask (cond (((attach_VolumeF (w13_fewF a0) a1 a2).act) == (1 : Int)) (((attach_VolumeF (w13_fewF a0) a1 a2).obj.version) == (0 : Int)) false)
        (.ask (w13_AttachRightL1F a0 a1 a2 (((attach_VolumeF (w13_fewF a0) a1 a2).obj.node).size) 0)
          (.leaf .ret ⟨slots 64 [(6, .bool w13_liveF)], []⟩ [])
          (.need [((w13_liveF = true) ∧ (!(((attach_VolumeF (w13_fewF a0) a1 a2).act) == (1 : Int))) = false) → ((attach_VolumeF (w13_fewF a0) a1 a2).obj.Fine)]
            (.leaf .ret ⟨slots 64 [(6, .bool (cond w13_liveF (cond (!(((attach_VolumeF (w13_fewF a0) a1 a2).act) == (1 : Int))) true (r03_RightF (attach_VolumeF (w13_fewF a0) a1 a2).obj)) false))], []⟩ [])))
        (.need [((w13_liveF = true) ∧ (!(((attach_VolumeF (w13_fewF a0) a1 a2).act) == (1 : Int))) = false) → ((attach_VolumeF (w13_fewF a0) a1 a2).obj.Fine)]
          (.leaf .ret ⟨slots 64 [(6, .bool (cond w13_liveF (cond (!(((attach_VolumeF (w13_fewF a0) a1 a2).act) == (1 : Int))) true (r03_RightF (attach_VolumeF (w13_fewF a0) a1 a2).obj)) false))], []⟩ [])))))
theorem w13_AttachRightF_tr (a0 : List XObj) (a1 : Int) (a2 : ByteArray) (hp0 : ∀ o ∈ a0, o.Fine) (hp1 : a2.size ≤ 140737488351232) : Tr Try.prog 0 (bodyOf Try.f7) (fnBegins Try.f7 [.coll ⟨.obj, a0⟩, .int .u64 a1, .str a2] []) (fnEnds Try.prog Try.f7 (.bool (w13_AttachRightF a0 a1 a2)) []) := by
  refine Tr_tree (kok _ _ _ _ _ _) (E := E_w13_AttachRight) (L := (loopsOf [(0, w13_AttachRightLS a0 a1 a2 0, [], w13_AttachRightLT a0 a1 a2 0), (2, w13_AttachRightL1S a0 a1 a2 0, [], w13_AttachRightL1T a0 a1 a2 0)])) 60 9999 (LoopsOk.two (g := loopAt Try.f7 0) (g2 := loopAt Try.f7 1) (b := 0) (b2 := 2) (by kernel_rfl) (by kernel_rfl) (by kernel_rfl) (by kernel_rfl) (by kernel_rfl) (fun Q h => w13_AttachRightL_loop a0 a1 a2 hp0 hp1 (by first | assumption | omega | decide | exact Nat.le_trans (w13_few_len _) (by decide) | exact Nat.lt_of_le_of_lt (w13_few_len _) (by decide) | (have h9 := Attachments_len (w13_fewF a0) a2; have h8 := w13_few_len a0; omega) | (have h9 := Wanted_len (w13_fewF a0) a2; have h8 := w13_few_len a0; omega)) ⟨0, Nat.zero_le _⟩ Q h) (by kernel_rfl) (by kernel_rfl) (by kernel_rfl) (fun Q h => w13_AttachRightL1_loop a0 a1 a2 hp0 hp1 (by have h9 := (vol_fine _ a1 _ (w13_few_fine (by assumption)) (by assumption)).2.2.2.2.2.1; omega) ⟨0, Nat.zero_le _⟩ Q h)) (w13_AttachRightR a0 a1 a2) (by kernel_rfl) (by kernel_rfl) (by kernel_rfl) ?_
  unfold w13_AttachRightR
  refine ⟨fun h0 => ?_, fun h0 => ?_⟩
  · have hF : w13_AttachRightF a0 a1 a2 = w13_liveF := by first | exact (cond_t h0 rfl) | simp only [w13_AttachRightF, h0, cond_true, cond_false]
    exact ⟨trivial, .inl (by first | (rw [hF]; kernel_rfl) | kernel_rfl), by first | (rw [hF]; kernel_rfl) | kernel_rfl⟩
  · refine ⟨need_cons (by (try refine fun (_ : _ = _) => ?_); first | assumption | omega | decide | exact Nat.le_trans (w13_few_len _) (by decide) | exact Nat.lt_of_le_of_lt (w13_few_len _) (by decide) | (have h9 := Attachments_len (w13_fewF a0) a2; have h8 := w13_few_len a0; omega) | (have h9 := Wanted_len (w13_fewF a0) a2; have h8 := w13_few_len a0; omega)) (need_cons (by (try refine fun (_ : _ = _) => ?_); first | assumption | (simp only [List.mem_cons, List.not_mem_nil, or_false, forall_eq_or_imp, forall_eq, XObj.Fine, size_mk]; decide) | exact w13_few_fine (by assumption)) (need_cons (by (try refine fun (_ : _ = _) => ?_); first | assumption | decide | omega) (need_nil))), ?_⟩
    refine ⟨fun h1 => ?_, fun h1 => ?_⟩
    · refine ⟨fun h2 => ?_, fun h2 => ?_⟩
      · have hF : w13_AttachRightF a0 a1 a2 = w13_liveF := by first | exact (cond_f h0 (cond_t h1 (cond_t h2 rfl))) | simp only [w13_AttachRightF, h0, h1, h2, cond_true, cond_false]
        exact ⟨trivial, .inl (by first | (rw [hF]; kernel_rfl) | kernel_rfl), by first | (rw [hF]; kernel_rfl) | kernel_rfl⟩
      · refine ⟨need_cons (by exact fun _ => vol_fine _ _ _ (w13_few_fine (by assumption)) (by assumption)) (need_nil), ?_⟩
        have hF : w13_AttachRightF a0 a1 a2 = (cond w13_liveF (cond (!(((attach_VolumeF (w13_fewF a0) a1 a2).act) == (1 : Int))) true (r03_RightF (attach_VolumeF (w13_fewF a0) a1 a2).obj)) false) := by first | exact (cond_f h0 (cond_t h1 (cond_f h2 rfl))) | simp only [w13_AttachRightF, h0, h1, h2, cond_true, cond_false]
        exact ⟨trivial, .inl (by first | (rw [hF]; kernel_rfl) | kernel_rfl), by first | (rw [hF]; kernel_rfl) | kernel_rfl⟩
    · refine ⟨need_cons (by exact fun _ => vol_fine _ _ _ (w13_few_fine (by assumption)) (by assumption)) (need_nil), ?_⟩
      have hF : w13_AttachRightF a0 a1 a2 = (cond w13_liveF (cond (!(((attach_VolumeF (w13_fewF a0) a1 a2).act) == (1 : Int))) true (r03_RightF (attach_VolumeF (w13_fewF a0) a1 a2).obj)) false) := by first | exact (cond_f h0 (cond_f h1 rfl)) | simp only [w13_AttachRightF, h0, h1, cond_true, cond_false]
      exact ⟨trivial, .inl (by first | (rw [hF]; kernel_rfl) | kernel_rfl), by first | (rw [hF]; kernel_rfl) | kernel_rfl⟩
end Go.Proofs.Ytbcnehpndoghcaa
