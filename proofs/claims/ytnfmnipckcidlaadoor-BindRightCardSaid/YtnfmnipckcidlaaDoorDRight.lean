/- Bind: laws. -/
import Derived.Test.YtnfmnipckcidlaaDoorDLive
set_option linter.unusedVariables false
set_option linter.unusedSimpArgs false
set_option maxRecDepth 100000
namespace Go.Proofs.YtnfmnipckcidlaaDoor
open Go Go.Eng
noncomputable def E_r03_Name : Env := envOf (P := Tryd.prog) [] [] [] ckf
def r03_NameLF (a0 : ByteArray) : Nat → Nat → Bool
  | 0, i => false
  | n + 1, i => cond (!(cond (cond (cond (cond (cond (cond (decide ((byteAt a0 (i : Int)) ≥ (97 : Int))) (decide ((byteAt a0 (i : Int)) ≤ (122 : Int))) false) true (cond (decide ((byteAt a0 (i : Int)) ≥ (48 : Int))) (decide ((byteAt a0 (i : Int)) ≤ (57 : Int))) false)) true ((byteAt a0 (i : Int)) == (45 : Int))) true ((byteAt a0 (i : Int)) == (46 : Int))) true ((byteAt a0 (i : Int)) == (35 : Int))) true ((byteAt a0 (i : Int)) == (47 : Int))))
    true
    (r03_NameLF a0 n (i + 1))
def r03_NameLS (a0 : ByteArray) (i : Nat) : St :=
  ⟨slots 53 [(0, .str a0), (3, .int .i64 (i : Int))], []⟩
def r03_NameLR (a0 : ByteArray) (i : Nat) : RT :=
  (.ask (decide ((i : Int) < (a0.size : Int)))
    (.need [0 ≤ (i : Int) ∧ (i : Int) < (a0.size : Int)]
      (.ask (!(cond (cond (cond (cond (cond (cond (decide ((byteAt a0 (i : Int)) ≥ (97 : Int))) (decide ((byteAt a0 (i : Int)) ≤ (122 : Int))) false) true (cond (decide ((byteAt a0 (i : Int)) ≥ (48 : Int))) (decide ((byteAt a0 (i : Int)) ≤ (57 : Int))) false)) true ((byteAt a0 (i : Int)) == (45 : Int))) true ((byteAt a0 (i : Int)) == (46 : Int))) true ((byteAt a0 (i : Int)) == (35 : Int))) true ((byteAt a0 (i : Int)) == (47 : Int))))
        (.leaf .ret ⟨slots 53 [(2, .bool false)], []⟩ [])
        (.leaf .normal ⟨slots 53 [(0, .str a0), (3, .int .i64 (IntKind.i64.wrap ((i : Int) + (1 : Int))))], []⟩ [])))
    (.leaf (.exit 0) ⟨slots 53 [(0, .str a0)], []⟩ []))
def r03_NameLT (a0 : ByteArray) (i : Nat) : Tree :=
  .ask (r03_NameLF a0 (a0.size - i) i) (.leaf .ret ⟨slots 53 [(2, .bool false)], []⟩) (.leaf (.exit 0) ⟨slots 53 [(0, .str a0)], []⟩)
theorem r03_NameL_loop (a0 : ByteArray) (hp0 : a0.size ≤ 140737488351232) (hlen : a0.size < 4611686018427387904) (z : { z : Nat // z ≤ a0.size }) (Q : Exit → St → Prop) (h : (r03_NameLT a0 z.1).All Q) : Tr Tryd.prog 0 (.loop (loopAt Tryd.f60 0)) (r03_NameLS a0 z.1) Q := by
  refine Tr_loopT (kok _ _ _ _ _ _) (E := E_r03_Name) (ι := { z : Nat // z ≤ a0.size }) 60 0 (fun _ => noLoops) (fun z => r03_NameLS a0 z.1) (fun z => r03_NameLT a0 z.1) (fun z => r03_NameLR a0 z.1) (fun z => a0.size - z.1) (fun _ => LoopsOk.none) (fun z => by obtain ⟨i, hi⟩ := z; kernel_rfl) (fun z => by obtain ⟨i, hi⟩ := z; kernel_rfl) (fun z => by obtain ⟨i, hi⟩ := z; kernel_rfl) ?_ z Q h
  rintro ⟨i, hi⟩ Q hT
  replace hT : (r03_NameLT a0 i).All Q := hT
  replace hi : i ≤ a0.size := hi
  show (r03_NameLR a0 i).All _
  unfold r03_NameLR
  refine ⟨fun h0 => ?_, fun h0 => ?_⟩
  · have hlt : i < a0.size := by simpa using h0
    have hd : a0.size - i = (a0.size - (i + 1)) + 1 := by omega
    have hw := wrap_succ (i := i) (by omega)
    refine ⟨need_cons (by first | assumption | omega | (intro; omega) | (simp only [decide_eq_true_eq, decide_eq_false_iff_not, Bool.cond_false_right, Bool.cond_true_right, Bool.cond_true_left, Bool.cond_false_left, Bool.and_eq_true, Bool.or_eq_true, Bool.not_eq_true', bytesLim, maxLen, List.length_cons, List.length_nil, List.length_append, byteSize_lit] at *; omega) | (intro; simp only [decide_eq_true_eq, decide_eq_false_iff_not, Bool.cond_false_right, Bool.cond_true_right, Bool.cond_true_left, Bool.cond_false_left, Bool.and_eq_true, Bool.or_eq_true, Bool.not_eq_true', bytesLim, maxLen, List.length_cons, List.length_nil, List.length_append, byteSize_lit] at *; omega)) (need_nil), ?_⟩
    refine ⟨fun h1 => ?_, fun h1 => ?_⟩
    · have hF : r03_NameLF a0 (a0.size - i) i = true := by rw [hd]; first | exact (cond_t h1 rfl) | simp only [r03_NameLF, h0, h1, cond_true, cond_false]
      unfold r03_NameLT at hT
      rw [hF] at hT
      exact hT.1 rfl
    · have hF : r03_NameLF a0 (a0.size - i) i = r03_NameLF a0 (a0.size - (i + 1)) (i + 1) := by rw [hd]; first | exact (cond_f h1 rfl) | simp only [r03_NameLF, h0, h1, cond_true, cond_false]
      refine ⟨⟨(i + 1), by show (i + 1) ≤ a0.size; omega⟩, by show a0.size - (i + 1) < a0.size - i; omega, ?_, ?_⟩
      · show _ = r03_NameLS a0 (i + 1)
        unfold r03_NameLS
        simp only [hw]
      · show (r03_NameLT a0 (i + 1)).All Q
        unfold r03_NameLT at hT ⊢
        rw [hF] at hT
        exact hT
  · have hge : ¬ i < a0.size := by simpa using h0
    have hd : a0.size - i = 0 := by omega
    have hF : r03_NameLF a0 (a0.size - i) i = false := by rw [hd]; first | exact rfl | simp only [r03_NameLF, h0, cond_true, cond_false]
    unfold r03_NameLT at hT
    rw [hF] at hT
    exact hT.2 rfl
def r03_NameF (a0 : ByteArray) : Bool :=
  cond (r03_NameLF a0 (a0.size) 0)
    false
    (cond (decide ((a0.size : Int) ≥ (1 : Int))) (decide ((a0.size : Int) ≤ (40 : Int))) false)
def r03_NameR (a0 : ByteArray) : RT :=
  (.ask (r03_NameLF a0 (a0.size) 0)
    (.leaf .ret ⟨slots 53 [(2, .bool false)], []⟩ [])
    (.leaf .ret ⟨slots 53 [(2, .bool (cond (decide ((a0.size : Int) ≥ (1 : Int))) (decide ((a0.size : Int) ≤ (40 : Int))) false))], []⟩ []))
theorem r03_NameF_tr (a0 : ByteArray) (hp0 : a0.size ≤ 140737488351232) : Tr Tryd.prog 0 (bodyOf Tryd.f60) (fnBegins Tryd.f60 [.str a0] []) (fnEnds Tryd.prog Tryd.f60 (.bool (r03_NameF a0)) []) := by
  refine Tr_tree (kok _ _ _ _ _ _) (E := E_r03_Name) (L := (loopsOf [(0, r03_NameLS a0 0, [], r03_NameLT a0 0)])) 60 9999 (LoopsOk.one (g := loopAt Tryd.f60 0) (b := 0) (by kernel_rfl) (by kernel_rfl) (by kernel_rfl) (by kernel_rfl) (fun Q h => r03_NameL_loop a0 hp0 (by first | assumption | omega | (simp only [List.length_cons, List.length_nil, List.length_append]; omega)) ⟨0, by first | exact Nat.zero_le _ | (show 0 ≤ a0.size; omega) | (show 0 ≤ a0.size; exact ⟨Nat.zero_le _, by assumption⟩) | (show 0 ≤ a0.size; simp)⟩ Q h)) (r03_NameR a0) (by kernel_rfl) (by kernel_rfl) (by kernel_rfl) ?_
  unfold r03_NameR
  refine ⟨fun h0 => ?_, fun h0 => ?_⟩
  · have hF : r03_NameF a0 = false := by first | exact (cond_t h0 rfl) | simp only [r03_NameF, h0, cond_true, cond_false]
    exact ⟨trivial, .inl (by first | (rw [hF]; kernel_rfl) | kernel_rfl), by first | (rw [hF]; kernel_rfl) | kernel_rfl⟩
  · have hF : r03_NameF a0 = cond (decide ((a0.size : Int) ≥ (1 : Int))) (decide ((a0.size : Int) ≤ (40 : Int))) false := by first | exact (cond_f h0 rfl) | simp only [r03_NameF, h0, cond_true, cond_false]
    exact ⟨trivial, .inl (by first | (rw [hF]; kernel_rfl) | kernel_rfl), by first | (rw [hF]; kernel_rfl) | kernel_rfl⟩
noncomputable def r03_Name_fact : Fact Tryd.prog := factOf 60 Tryd.f60 (by kernel_rfl) rfl (by kernel_rfl) [.c (.str)] [] true (fun t u => .bool (r03_NameF t.1)) (fun t u => []) (fun t u => [t.1.size ≤ 140737488351232])
  (fun _ _ _ => rfl) (fun t u => by kernel_rfl) (fun t u => by kernel_rfl) (fun t u h => r03_NameF_tr t.1 (h _ List.mem_cons_self))
noncomputable def E_r03_maybe : Env := envOf (P := Tryd.prog) [r03_Name_fact] [] [] ckf
def r03_maybeF (a0 : ByteArray) : Bool :=
  cond (decide (a0 = (⟨#[]⟩ : ByteArray))) true (r03_NameF a0)
def r03_maybeR (a0 : ByteArray) : RT :=
  (.need [((decide (a0 = (⟨#[]⟩ : ByteArray))) = false) → (a0.size ≤ 140737488351232)]
    (.leaf .ret ⟨slots 9 [(2, .bool (cond (decide (a0 = (⟨#[]⟩ : ByteArray))) true (r03_NameF a0)))], []⟩ []))
theorem r03_maybeF_tr (a0 : ByteArray) (hp0 : a0.size ≤ 140737488351232) : Tr Tryd.prog 0 (bodyOf Tryd.f59) (fnBegins Tryd.f59 [.str a0] []) (fnEnds Tryd.prog Tryd.f59 (.bool (r03_maybeF a0)) []) := by
  refine Tr_tree (kok _ _ _ _ _ _) (E := E_r03_maybe) (L := noLoops) 60 9999 LoopsOk.none (r03_maybeR a0) (by kernel_rfl) (by kernel_rfl) (by kernel_rfl) ?_
  unfold r03_maybeR
  refine ⟨need_cons (by first | assumption | omega | (intro; omega) | (simp only [decide_eq_true_eq, decide_eq_false_iff_not, Bool.cond_false_right, Bool.cond_true_right, Bool.cond_true_left, Bool.cond_false_left, Bool.and_eq_true, Bool.or_eq_true, Bool.not_eq_true', bytesLim, maxLen, List.length_cons, List.length_nil, List.length_append, byteSize_lit] at *; omega) | (intro; simp only [decide_eq_true_eq, decide_eq_false_iff_not, Bool.cond_false_right, Bool.cond_true_right, Bool.cond_true_left, Bool.cond_false_left, Bool.and_eq_true, Bool.or_eq_true, Bool.not_eq_true', bytesLim, maxLen, List.length_cons, List.length_nil, List.length_append, byteSize_lit] at *; omega)) (need_nil), ?_⟩
  exact ⟨trivial, .inl (by kernel_rfl), by kernel_rfl⟩
noncomputable def r03_maybe_fact : Fact Tryd.prog := factOf 59 Tryd.f59 (by kernel_rfl) rfl (by kernel_rfl) [.c (.str)] [] true (fun t u => .bool (r03_maybeF t.1)) (fun t u => []) (fun t u => [t.1.size ≤ 140737488351232])
  (fun _ _ _ => rfl) (fun t u => by kernel_rfl) (fun t u => by kernel_rfl) (fun t u h => r03_maybeF_tr t.1 (h _ List.mem_cons_self))
noncomputable def E_r03_bare : Env := envOf (P := Tryd.prog) [] [] [] ckf
def r03_bareF (a0 : XObj) : XObj :=
  cond (a0.kind == (1 : Int))
    (⟨a0.kind, a0.name, a0.version, a0.born, a0.deleting, a0.hold, (⟨#[]⟩ : ByteArray), (0 : Int), (0 : Int), (0 : Int), a0.keep, a0.wait, a0.zone, (⟨#[]⟩ : ByteArray), (⟨#[]⟩ : ByteArray), (⟨#[]⟩ : ByteArray), (⟨#[]⟩ : ByteArray), (0 : Int), (0 : Int), (0 : Int)⟩ : XObj)
    (cond (a0.kind == (2 : Int))
      (⟨a0.kind, a0.name, a0.version, a0.born, a0.deleting, a0.hold, (⟨#[]⟩ : ByteArray), (0 : Int), (0 : Int), (0 : Int), false, false, a0.zone, (⟨#[]⟩ : ByteArray), (⟨#[]⟩ : ByteArray), (⟨#[]⟩ : ByteArray), (⟨#[]⟩ : ByteArray), (0 : Int), (0 : Int), (0 : Int)⟩ : XObj)
      (cond (a0.kind == (3 : Int))
        ({ a0 with keep := false, wait := false, claim := (⟨#[]⟩ : ByteArray), tag := (0 : Int) } : XObj)
        (cond (a0.kind == (4 : Int))
          ({ a0 with wait := false, node := (⟨#[]⟩ : ByteArray), volume := (⟨#[]⟩ : ByteArray), source := (⟨#[]⟩ : ByteArray), tag := (0 : Int) } : XObj)
          (cond (a0.kind == (5 : Int))
            ({ a0 with cls := (⟨#[]⟩ : ByteArray), size := (0 : Int), got := (0 : Int), mode := (0 : Int), keep := false, wait := false, zone := (⟨#[]⟩ : ByteArray), claim := (⟨#[]⟩ : ByteArray), source := (⟨#[]⟩ : ByteArray), tag := (0 : Int) } : XObj)
            (cond (a0.kind == (6 : Int))
              (⟨a0.kind, a0.name, a0.version, a0.born, a0.deleting, a0.hold, (⟨#[]⟩ : ByteArray), (0 : Int), (0 : Int), (0 : Int), false, false, (⟨#[]⟩ : ByteArray), a0.node, a0.claim, (⟨#[]⟩ : ByteArray), (⟨#[]⟩ : ByteArray), (0 : Int), (0 : Int), (0 : Int)⟩ : XObj)
              (cond (a0.kind == (7 : Int))
                ({ a0 with cls := (⟨#[]⟩ : ByteArray), size := (0 : Int), mode := (0 : Int), keep := false, wait := false, zone := (⟨#[]⟩ : ByteArray), node := (⟨#[]⟩ : ByteArray), claim := (⟨#[]⟩ : ByteArray) } : XObj)
                (⟨a0.kind, a0.name, a0.version, a0.born, a0.deleting, a0.hold, (⟨#[]⟩ : ByteArray), (0 : Int), (0 : Int), (0 : Int), false, false, (⟨#[]⟩ : ByteArray), (⟨#[]⟩ : ByteArray), (⟨#[]⟩ : ByteArray), (⟨#[]⟩ : ByteArray), (⟨#[]⟩ : ByteArray), (0 : Int), (0 : Int), (0 : Int)⟩ : XObj)))))))
def r03_bareR (a0 : XObj) : RT :=
  (.ask (a0.kind == (1 : Int))
    (.leaf .ret ⟨slots 139 [(2, .ptr 0 0)], [.cells 31 [.int .u8 a0.kind, .str a0.name, .int .u64 a0.version, .int .u64 a0.born, .bool a0.deleting, .bool a0.hold, .str (⟨#[]⟩ : ByteArray), .int .i64 0, .int .i64 0, .int .u8 0, .bool a0.keep, .bool a0.wait, .str a0.zone, .str (⟨#[]⟩ : ByteArray), .str (⟨#[]⟩ : ByteArray), .str (⟨#[]⟩ : ByteArray), .str (⟨#[]⟩ : ByteArray), .int .u8 0, .int .u64 0, .int .u64 0]]⟩ [1])
    (.ask (a0.kind == (2 : Int))
      (.leaf .ret ⟨slots 139 [(2, .ptr 0 0)], [.cells 31 [.int .u8 a0.kind, .str a0.name, .int .u64 a0.version, .int .u64 a0.born, .bool a0.deleting, .bool a0.hold, .str (⟨#[]⟩ : ByteArray), .int .i64 0, .int .i64 0, .int .u8 0, .bool false, .bool false, .str a0.zone, .str (⟨#[]⟩ : ByteArray), .str (⟨#[]⟩ : ByteArray), .str (⟨#[]⟩ : ByteArray), .str (⟨#[]⟩ : ByteArray), .int .u8 0, .int .u64 0, .int .u64 0]]⟩ [1])
      (.ask (a0.kind == (3 : Int))
        (.leaf .ret ⟨slots 139 [(2, .ptr 0 0)], [.cells 31 [.int .u8 a0.kind, .str a0.name, .int .u64 a0.version, .int .u64 a0.born, .bool a0.deleting, .bool a0.hold, .str a0.cls, .int .i64 a0.size, .int .i64 a0.got, .int .u8 a0.mode, .bool false, .bool false, .str a0.zone, .str a0.node, .str (⟨#[]⟩ : ByteArray), .str a0.volume, .str a0.source, .int .u8 a0.phase, .int .u64 a0.num, .int .u64 0]]⟩ [1])
        (.ask (a0.kind == (4 : Int))
          (.leaf .ret ⟨slots 139 [(2, .ptr 0 0)], [.cells 31 [.int .u8 a0.kind, .str a0.name, .int .u64 a0.version, .int .u64 a0.born, .bool a0.deleting, .bool a0.hold, .str a0.cls, .int .i64 a0.size, .int .i64 a0.got, .int .u8 a0.mode, .bool a0.keep, .bool false, .str a0.zone, .str (⟨#[]⟩ : ByteArray), .str a0.claim, .str (⟨#[]⟩ : ByteArray), .str (⟨#[]⟩ : ByteArray), .int .u8 a0.phase, .int .u64 a0.num, .int .u64 0]]⟩ [1])
          (.ask (a0.kind == (5 : Int))
            (.leaf .ret ⟨slots 139 [(2, .ptr 0 0)], [.cells 31 [.int .u8 a0.kind, .str a0.name, .int .u64 a0.version, .int .u64 a0.born, .bool a0.deleting, .bool a0.hold, .str (⟨#[]⟩ : ByteArray), .int .i64 0, .int .i64 0, .int .u8 0, .bool false, .bool false, .str (⟨#[]⟩ : ByteArray), .str a0.node, .str (⟨#[]⟩ : ByteArray), .str a0.volume, .str (⟨#[]⟩ : ByteArray), .int .u8 a0.phase, .int .u64 a0.num, .int .u64 0]]⟩ [1])
            (.ask (a0.kind == (6 : Int))
              (.leaf .ret ⟨slots 139 [(2, .ptr 0 0)], [.cells 31 [.int .u8 a0.kind, .str a0.name, .int .u64 a0.version, .int .u64 a0.born, .bool a0.deleting, .bool a0.hold, .str (⟨#[]⟩ : ByteArray), .int .i64 0, .int .i64 0, .int .u8 0, .bool false, .bool false, .str (⟨#[]⟩ : ByteArray), .str a0.node, .str a0.claim, .str (⟨#[]⟩ : ByteArray), .str (⟨#[]⟩ : ByteArray), .int .u8 0, .int .u64 0, .int .u64 0]]⟩ [1])
              (.ask (a0.kind == (7 : Int))
                (.leaf .ret ⟨slots 139 [(2, .ptr 0 0)], [.cells 31 [.int .u8 a0.kind, .str a0.name, .int .u64 a0.version, .int .u64 a0.born, .bool a0.deleting, .bool a0.hold, .str (⟨#[]⟩ : ByteArray), .int .i64 0, .int .i64 a0.got, .int .u8 0, .bool false, .bool false, .str (⟨#[]⟩ : ByteArray), .str (⟨#[]⟩ : ByteArray), .str (⟨#[]⟩ : ByteArray), .str a0.volume, .str a0.source, .int .u8 a0.phase, .int .u64 a0.num, .int .u64 a0.tag]]⟩ [1])
                (.leaf .ret ⟨slots 139 [(2, .ptr 0 0)], [.cells 31 [.int .u8 a0.kind, .str a0.name, .int .u64 a0.version, .int .u64 a0.born, .bool a0.deleting, .bool a0.hold, .str (⟨#[]⟩ : ByteArray), .int .i64 0, .int .i64 0, .int .u8 0, .bool false, .bool false, .str (⟨#[]⟩ : ByteArray), .str (⟨#[]⟩ : ByteArray), .str (⟨#[]⟩ : ByteArray), .str (⟨#[]⟩ : ByteArray), .str (⟨#[]⟩ : ByteArray), .int .u8 0, .int .u64 0, .int .u64 0]]⟩ [1]))))))))
theorem r03_bareF_tr (a0 : XObj)  : Tr Tryd.prog 0 (bodyOf Tryd.f61) (fnBegins Tryd.f61 [.agg (oc a0)] []) (fnEnds Tryd.prog Tryd.f61 (.agg (oc (r03_bareF a0))) []) := by
  refine Tr_tree (kok _ _ _ _ _ _) (E := E_r03_bare) (L := noLoops) 60 9999 LoopsOk.none (r03_bareR a0) (by kernel_rfl) (by kernel_rfl) (by kernel_rfl) ?_
  unfold r03_bareR
  refine ⟨fun h0 => ?_, fun h0 => ?_⟩
  · have hF : r03_bareF a0 = (⟨a0.kind, a0.name, a0.version, a0.born, a0.deleting, a0.hold, (⟨#[]⟩ : ByteArray), (0 : Int), (0 : Int), (0 : Int), a0.keep, a0.wait, a0.zone, (⟨#[]⟩ : ByteArray), (⟨#[]⟩ : ByteArray), (⟨#[]⟩ : ByteArray), (⟨#[]⟩ : ByteArray), (0 : Int), (0 : Int), (0 : Int)⟩ : XObj) := by first | exact (cond_t h0 rfl) | simp only [r03_bareF, h0, cond_true, cond_false]
    exact ⟨trivial, .inl (by first | (rw [hF]; kernel_rfl) | kernel_rfl), by first | (rw [hF]; kernel_rfl) | kernel_rfl⟩
  · refine ⟨fun h1 => ?_, fun h1 => ?_⟩
    · have hF : r03_bareF a0 = (⟨a0.kind, a0.name, a0.version, a0.born, a0.deleting, a0.hold, (⟨#[]⟩ : ByteArray), (0 : Int), (0 : Int), (0 : Int), false, false, a0.zone, (⟨#[]⟩ : ByteArray), (⟨#[]⟩ : ByteArray), (⟨#[]⟩ : ByteArray), (⟨#[]⟩ : ByteArray), (0 : Int), (0 : Int), (0 : Int)⟩ : XObj) := by first | exact (cond_f h0 (cond_t h1 rfl)) | simp only [r03_bareF, h0, h1, cond_true, cond_false]
      exact ⟨trivial, .inl (by first | (rw [hF]; kernel_rfl) | kernel_rfl), by first | (rw [hF]; kernel_rfl) | kernel_rfl⟩
    · refine ⟨fun h2 => ?_, fun h2 => ?_⟩
      · have hF : r03_bareF a0 = ({ a0 with keep := false, wait := false, claim := (⟨#[]⟩ : ByteArray), tag := (0 : Int) } : XObj) := by first | exact (cond_f h0 (cond_f h1 (cond_t h2 rfl))) | simp only [r03_bareF, h0, h1, h2, cond_true, cond_false]
        exact ⟨trivial, .inl (by first | (rw [hF]; kernel_rfl) | kernel_rfl), by first | (rw [hF]; kernel_rfl) | kernel_rfl⟩
      · refine ⟨fun h3 => ?_, fun h3 => ?_⟩
        · have hF : r03_bareF a0 = ({ a0 with wait := false, node := (⟨#[]⟩ : ByteArray), volume := (⟨#[]⟩ : ByteArray), source := (⟨#[]⟩ : ByteArray), tag := (0 : Int) } : XObj) := by first | exact (cond_f h0 (cond_f h1 (cond_f h2 (cond_t h3 rfl)))) | simp only [r03_bareF, h0, h1, h2, h3, cond_true, cond_false]
          exact ⟨trivial, .inl (by first | (rw [hF]; kernel_rfl) | kernel_rfl), by first | (rw [hF]; kernel_rfl) | kernel_rfl⟩
        · refine ⟨fun h4 => ?_, fun h4 => ?_⟩
          · have hF : r03_bareF a0 = ({ a0 with cls := (⟨#[]⟩ : ByteArray), size := (0 : Int), got := (0 : Int), mode := (0 : Int), keep := false, wait := false, zone := (⟨#[]⟩ : ByteArray), claim := (⟨#[]⟩ : ByteArray), source := (⟨#[]⟩ : ByteArray), tag := (0 : Int) } : XObj) := by first | exact (cond_f h0 (cond_f h1 (cond_f h2 (cond_f h3 (cond_t h4 rfl))))) | simp only [r03_bareF, h0, h1, h2, h3, h4, cond_true, cond_false]
            exact ⟨trivial, .inl (by first | (rw [hF]; kernel_rfl) | kernel_rfl), by first | (rw [hF]; kernel_rfl) | kernel_rfl⟩
          · refine ⟨fun h5 => ?_, fun h5 => ?_⟩
            · have hF : r03_bareF a0 = (⟨a0.kind, a0.name, a0.version, a0.born, a0.deleting, a0.hold, (⟨#[]⟩ : ByteArray), (0 : Int), (0 : Int), (0 : Int), false, false, (⟨#[]⟩ : ByteArray), a0.node, a0.claim, (⟨#[]⟩ : ByteArray), (⟨#[]⟩ : ByteArray), (0 : Int), (0 : Int), (0 : Int)⟩ : XObj) := by first | exact (cond_f h0 (cond_f h1 (cond_f h2 (cond_f h3 (cond_f h4 (cond_t h5 rfl)))))) | simp only [r03_bareF, h0, h1, h2, h3, h4, h5, cond_true, cond_false]
              exact ⟨trivial, .inl (by first | (rw [hF]; kernel_rfl) | kernel_rfl), by first | (rw [hF]; kernel_rfl) | kernel_rfl⟩
            · refine ⟨fun h6 => ?_, fun h6 => ?_⟩
              · have hF : r03_bareF a0 = ({ a0 with cls := (⟨#[]⟩ : ByteArray), size := (0 : Int), mode := (0 : Int), keep := false, wait := false, zone := (⟨#[]⟩ : ByteArray), node := (⟨#[]⟩ : ByteArray), claim := (⟨#[]⟩ : ByteArray) } : XObj) := by first | exact (cond_f h0 (cond_f h1 (cond_f h2 (cond_f h3 (cond_f h4 (cond_f h5 (cond_t h6 rfl))))))) | simp only [r03_bareF, h0, h1, h2, h3, h4, h5, h6, cond_true, cond_false]
                exact ⟨trivial, .inl (by first | (rw [hF]; kernel_rfl) | kernel_rfl), by first | (rw [hF]; kernel_rfl) | kernel_rfl⟩
              · have hF : r03_bareF a0 = (⟨a0.kind, a0.name, a0.version, a0.born, a0.deleting, a0.hold, (⟨#[]⟩ : ByteArray), (0 : Int), (0 : Int), (0 : Int), false, false, (⟨#[]⟩ : ByteArray), (⟨#[]⟩ : ByteArray), (⟨#[]⟩ : ByteArray), (⟨#[]⟩ : ByteArray), (⟨#[]⟩ : ByteArray), (0 : Int), (0 : Int), (0 : Int)⟩ : XObj) := by first | exact (cond_f h0 (cond_f h1 (cond_f h2 (cond_f h3 (cond_f h4 (cond_f h5 (cond_f h6 rfl))))))) | simp only [r03_bareF, h0, h1, h2, h3, h4, h5, h6, cond_true, cond_false]
                exact ⟨trivial, .inl (by first | (rw [hF]; kernel_rfl) | kernel_rfl), by first | (rw [hF]; kernel_rfl) | kernel_rfl⟩
noncomputable def r03_bare_fact : Fact Tryd.prog := factOf 61 Tryd.f61 (by kernel_rfl) rfl (by kernel_rfl) [.st .obj] [] true (fun t u => .agg (oc (r03_bareF t.1))) (fun t u => []) (fun t u => [])
  (fun _ _ _ => rfl) (fun t u => by kernel_rfl) (fun t u => by kernel_rfl) (fun t u h => r03_bareF_tr t.1 )
noncomputable def E_r03_plain : Env := envOf (P := Tryd.prog) [] [] [] ckf
def r03_plainLF (a0 : ByteArray) : Nat → Nat → Bool
  | 0, i => false
  | n + 1, i => cond ((byteAt a0 (i : Int)) == (47 : Int))
    true
    (r03_plainLF a0 n (i + 1))
def r03_plainLS (a0 : ByteArray) (i : Nat) : St :=
  ⟨slots 14 [(0, .str a0), (3, .int .i64 (i : Int))], []⟩
def r03_plainLR (a0 : ByteArray) (i : Nat) : RT :=
  (.ask (decide ((i : Int) < (a0.size : Int)))
    (.need [0 ≤ (i : Int) ∧ (i : Int) < (a0.size : Int)]
      (.ask ((byteAt a0 (i : Int)) == (47 : Int))
        (.leaf .ret ⟨slots 14 [(2, .bool false)], []⟩ [])
        (.leaf .normal ⟨slots 14 [(0, .str a0), (3, .int .i64 (IntKind.i64.wrap ((i : Int) + (1 : Int))))], []⟩ [])))
    (.leaf (.exit 0) ⟨slots 14 [], []⟩ []))
def r03_plainLT (a0 : ByteArray) (i : Nat) : Tree :=
  .ask (r03_plainLF a0 (a0.size - i) i) (.leaf .ret ⟨slots 14 [(2, .bool false)], []⟩) (.leaf (.exit 0) ⟨slots 14 [], []⟩)
theorem r03_plainL_loop (a0 : ByteArray) (hp0 : a0.size ≤ 140737488351232) (hlen : a0.size < 4611686018427387904) (z : { z : Nat // z ≤ a0.size }) (Q : Exit → St → Prop) (h : (r03_plainLT a0 z.1).All Q) : Tr Tryd.prog 0 (.loop (loopAt Tryd.f62 0)) (r03_plainLS a0 z.1) Q := by
  refine Tr_loopT (kok _ _ _ _ _ _) (E := E_r03_plain) (ι := { z : Nat // z ≤ a0.size }) 60 0 (fun _ => noLoops) (fun z => r03_plainLS a0 z.1) (fun z => r03_plainLT a0 z.1) (fun z => r03_plainLR a0 z.1) (fun z => a0.size - z.1) (fun _ => LoopsOk.none) (fun z => by obtain ⟨i, hi⟩ := z; kernel_rfl) (fun z => by obtain ⟨i, hi⟩ := z; kernel_rfl) (fun z => by obtain ⟨i, hi⟩ := z; kernel_rfl) ?_ z Q h
  rintro ⟨i, hi⟩ Q hT
  replace hT : (r03_plainLT a0 i).All Q := hT
  replace hi : i ≤ a0.size := hi
  show (r03_plainLR a0 i).All _
  unfold r03_plainLR
  refine ⟨fun h0 => ?_, fun h0 => ?_⟩
  · have hlt : i < a0.size := by simpa using h0
    have hd : a0.size - i = (a0.size - (i + 1)) + 1 := by omega
    have hw := wrap_succ (i := i) (by omega)
    refine ⟨need_cons (by first | assumption | omega | (intro; omega) | (simp only [decide_eq_true_eq, decide_eq_false_iff_not, Bool.cond_false_right, Bool.cond_true_right, Bool.cond_true_left, Bool.cond_false_left, Bool.and_eq_true, Bool.or_eq_true, Bool.not_eq_true', bytesLim, maxLen, List.length_cons, List.length_nil, List.length_append, byteSize_lit] at *; omega) | (intro; simp only [decide_eq_true_eq, decide_eq_false_iff_not, Bool.cond_false_right, Bool.cond_true_right, Bool.cond_true_left, Bool.cond_false_left, Bool.and_eq_true, Bool.or_eq_true, Bool.not_eq_true', bytesLim, maxLen, List.length_cons, List.length_nil, List.length_append, byteSize_lit] at *; omega)) (need_nil), ?_⟩
    refine ⟨fun h1 => ?_, fun h1 => ?_⟩
    · have hF : r03_plainLF a0 (a0.size - i) i = true := by rw [hd]; first | exact (cond_t h1 rfl) | simp only [r03_plainLF, h0, h1, cond_true, cond_false]
      unfold r03_plainLT at hT
      rw [hF] at hT
      exact hT.1 rfl
    · have hF : r03_plainLF a0 (a0.size - i) i = r03_plainLF a0 (a0.size - (i + 1)) (i + 1) := by rw [hd]; first | exact (cond_f h1 rfl) | simp only [r03_plainLF, h0, h1, cond_true, cond_false]
      refine ⟨⟨(i + 1), by show (i + 1) ≤ a0.size; omega⟩, by show a0.size - (i + 1) < a0.size - i; omega, ?_, ?_⟩
      · show _ = r03_plainLS a0 (i + 1)
        unfold r03_plainLS
        simp only [hw]
      · show (r03_plainLT a0 (i + 1)).All Q
        unfold r03_plainLT at hT ⊢
        rw [hF] at hT
        exact hT
  · have hge : ¬ i < a0.size := by simpa using h0
    have hd : a0.size - i = 0 := by omega
    have hF : r03_plainLF a0 (a0.size - i) i = false := by rw [hd]; first | exact rfl | simp only [r03_plainLF, h0, cond_true, cond_false]
    unfold r03_plainLT at hT
    rw [hF] at hT
    exact hT.2 rfl
def r03_plainF (a0 : ByteArray) : Bool :=
  cond (r03_plainLF a0 (a0.size) 0)
    false
    true
def r03_plainR (a0 : ByteArray) : RT :=
  (.ask (r03_plainLF a0 (a0.size) 0)
    (.leaf .ret ⟨slots 14 [(2, .bool false)], []⟩ [])
    (.leaf .ret ⟨slots 14 [(2, .bool true)], []⟩ []))
theorem r03_plainF_tr (a0 : ByteArray) (hp0 : a0.size ≤ 140737488351232) : Tr Tryd.prog 0 (bodyOf Tryd.f62) (fnBegins Tryd.f62 [.str a0] []) (fnEnds Tryd.prog Tryd.f62 (.bool (r03_plainF a0)) []) := by
  refine Tr_tree (kok _ _ _ _ _ _) (E := E_r03_plain) (L := (loopsOf [(0, r03_plainLS a0 0, [], r03_plainLT a0 0)])) 60 9999 (LoopsOk.one (g := loopAt Tryd.f62 0) (b := 0) (by kernel_rfl) (by kernel_rfl) (by kernel_rfl) (by kernel_rfl) (fun Q h => r03_plainL_loop a0 hp0 (by first | assumption | omega | (simp only [List.length_cons, List.length_nil, List.length_append]; omega)) ⟨0, by first | exact Nat.zero_le _ | (show 0 ≤ a0.size; omega) | (show 0 ≤ a0.size; exact ⟨Nat.zero_le _, by assumption⟩) | (show 0 ≤ a0.size; simp)⟩ Q h)) (r03_plainR a0) (by kernel_rfl) (by kernel_rfl) (by kernel_rfl) ?_
  unfold r03_plainR
  refine ⟨fun h0 => ?_, fun h0 => ?_⟩
  · have hF : r03_plainF a0 = false := by first | exact (cond_t h0 rfl) | simp only [r03_plainF, h0, cond_true, cond_false]
    exact ⟨trivial, .inl (by first | (rw [hF]; kernel_rfl) | kernel_rfl), by first | (rw [hF]; kernel_rfl) | kernel_rfl⟩
  · have hF : r03_plainF a0 = true := by first | exact (cond_f h0 rfl) | simp only [r03_plainF, h0, cond_true, cond_false]
    exact ⟨trivial, .inl (by first | (rw [hF]; kernel_rfl) | kernel_rfl), by first | (rw [hF]; kernel_rfl) | kernel_rfl⟩
noncomputable def r03_plain_fact : Fact Tryd.prog := factOf 62 Tryd.f62 (by kernel_rfl) rfl (by kernel_rfl) [.c (.str)] [] true (fun t u => .bool (r03_plainF t.1)) (fun t u => []) (fun t u => [t.1.size ≤ 140737488351232])
  (fun _ _ _ => rfl) (fun t u => by kernel_rfl) (fun t u => by kernel_rfl) (fun t u h => r03_plainF_tr t.1 (h _ List.mem_cons_self))
noncomputable def E_r03_AttachName : Env := envOf (P := Tryd.prog) [] [] [] ckf
def r03_AttachNameF (a0 : ByteArray) (a1 : ByteArray) : ByteArray :=
  (a0 ++ (⟨#[47]⟩ : ByteArray)) ++ a1
def r03_AttachNameR (a0 : ByteArray) (a1 : ByteArray) : RT :=
  (.need [a0.size + (⟨#[47]⟩ : ByteArray).size ≤ 9223372036854775807]
    (.need [(a0 ++ (⟨#[47]⟩ : ByteArray)).size + a1.size ≤ 9223372036854775807]
      (.leaf .ret ⟨slots 9 [(4, .str ((a0 ++ (⟨#[47]⟩ : ByteArray)) ++ a1))], []⟩ [])))
theorem r03_AttachNameF_tr (a0 : ByteArray) (a1 : ByteArray) (hp0 : a0.size ≤ 140737488351232) (hp1 : a1.size ≤ 140737488351232) : Tr Tryd.prog 0 (bodyOf Tryd.f63) (fnBegins Tryd.f63 [.str a0, .str a1] []) (fnEnds Tryd.prog Tryd.f63 (.str (r03_AttachNameF a0 a1)) []) := by
  refine Tr_tree (kok _ _ _ _ _ _) (E := E_r03_AttachName) (L := noLoops) 60 9999 LoopsOk.none (r03_AttachNameR a0 a1) (by kernel_rfl) (by kernel_rfl) (by kernel_rfl) ?_
  unfold r03_AttachNameR
  refine ⟨need_cons (by first | (simp only [ByteArray.size_append, size_mk, List.size_toArray, List.length_cons, List.length_nil]; omega)) (need_nil), ?_⟩
  refine ⟨need_cons (by first | (simp only [ByteArray.size_append, size_mk, List.size_toArray, List.length_cons, List.length_nil]; omega)) (need_nil), ?_⟩
  exact ⟨trivial, .inl (by kernel_rfl), by kernel_rfl⟩
noncomputable def r03_AttachName_fact : Fact Tryd.prog := factOf 63 Tryd.f63 (by kernel_rfl) rfl (by kernel_rfl) [.c (.str), .c (.str)] [] true (fun t u => .str (r03_AttachNameF t.1 t.2.1)) (fun t u => []) (fun t u => [t.1.size ≤ 140737488351232, t.2.1.size ≤ 140737488351232])
  (fun _ _ _ => rfl) (fun t u => by kernel_rfl) (fun t u => by kernel_rfl) (fun t u h => r03_AttachNameF_tr t.1 t.2.1 (h _ List.mem_cons_self) (h _ (List.mem_cons_of_mem _ List.mem_cons_self)))
noncomputable def E_r03_Right : Env := envOf (P := Tryd.prog) [r03_maybe_fact, r03_Name_fact, r03_bare_fact, r03_plain_fact, r03_AttachName_fact] [] [] ckf
def r03_RightF (a0 : XObj) : Bool :=
  cond (cond (cond (cond (cond (cond (cond (!(r03_NameF a0.name)) true (!((a0.kind == ((r03_bareF a0).kind)) && ((decide (a0.name = ((r03_bareF a0).name))) && ((a0.version == ((r03_bareF a0).version)) && ((a0.born == ((r03_bareF a0).born)) && ((a0.deleting == ((r03_bareF a0).deleting)) && ((a0.hold == ((r03_bareF a0).hold)) && ((decide (a0.cls = ((r03_bareF a0).cls))) && ((a0.size == ((r03_bareF a0).size)) && ((a0.got == ((r03_bareF a0).got)) && ((a0.mode == ((r03_bareF a0).mode)) && ((a0.keep == ((r03_bareF a0).keep)) && ((a0.wait == ((r03_bareF a0).wait)) && ((decide (a0.zone = ((r03_bareF a0).zone))) && ((decide (a0.node = ((r03_bareF a0).node))) && ((decide (a0.claim = ((r03_bareF a0).claim))) && ((decide (a0.volume = ((r03_bareF a0).volume))) && ((decide (a0.source = ((r03_bareF a0).source))) && ((a0.phase == ((r03_bareF a0).phase)) && ((a0.num == ((r03_bareF a0).num)) && (a0.tag == ((r03_bareF a0).tag))))))))))))))))))))))) true (!(cond (cond (cond (cond (cond (r03_maybeF a0.cls) (r03_maybeF a0.zone) false) (r03_maybeF a0.node) false) (r03_maybeF a0.claim) false) (r03_maybeF a0.volume) false) (r03_maybeF a0.source) false))) true (decide (a0.size < (0 : Int)))) true (decide (a0.size > (1125899906842624 : Int)))) true (decide (a0.got < (0 : Int)))) true (decide (a0.got > (1125899906842624 : Int))))
    false
    (cond (a0.kind == (1 : Int))
      true
      (cond (a0.kind == (2 : Int))
        (cond (!(decide (a0.zone = (⟨#[]⟩ : ByteArray)))) (r03_plainF a0.name) false)
        (cond (a0.kind == (3 : Int))
          (cond (cond (cond (cond (!(decide (a0.cls = (⟨#[]⟩ : ByteArray)))) (!(a0.size == (0 : Int))) false) (cond (a0.mode == (1 : Int)) true (a0.mode == (2 : Int))) false) (cond (cond (a0.phase == (1 : Int)) true (a0.phase == (2 : Int))) true (a0.phase == (3 : Int))) false) ((!(decide (a0.volume = (⟨#[]⟩ : ByteArray)))) == (a0.phase == (3 : Int))) false)
          (cond (a0.kind == (4 : Int))
            (cond (cond (cond (cond (cond (cond (!(decide (a0.cls = (⟨#[]⟩ : ByteArray)))) (!(decide (a0.zone = (⟨#[]⟩ : ByteArray)))) false) (!(a0.size == (0 : Int))) false) (!(a0.got == (0 : Int))) false) (cond (a0.mode == (1 : Int)) true (a0.mode == (2 : Int))) false) (cond (cond (cond (a0.phase == (4 : Int)) true (a0.phase == (3 : Int))) true (a0.phase == (5 : Int))) true (a0.phase == (6 : Int))) false) (cond (!(decide (a0.claim = (⟨#[]⟩ : ByteArray)))) true (cond (!(a0.phase == (3 : Int))) (!(a0.phase == (5 : Int))) false)) false)
            (cond (a0.kind == (5 : Int))
              (cond (cond (cond (cond (!(decide (a0.volume = (⟨#[]⟩ : ByteArray)))) (!(decide (a0.node = (⟨#[]⟩ : ByteArray)))) false) (r03_plainF a0.node) false) (decide (a0.name = (r03_AttachNameF a0.volume a0.node))) false) (cond (cond (a0.phase == (7 : Int)) true (a0.phase == (8 : Int))) true (a0.phase == (9 : Int))) false)
              (cond (a0.kind == (6 : Int))
                (!(decide (a0.claim = (⟨#[]⟩ : ByteArray))))
                (cond (a0.kind == (7 : Int))
                  (cond (!(decide (a0.source = (⟨#[]⟩ : ByteArray)))) (cond (cond (cond (a0.phase == (1 : Int)) true (a0.phase == (10 : Int))) true (a0.phase == (11 : Int))) true (a0.phase == (6 : Int))) false)
                  false)))))))
def r03_RightR (a0 : XObj) : RT :=
  (.need [a0.cls.size ≤ 140737488351232]
    (.need [((r03_maybeF a0.cls) = true) → (a0.zone.size ≤ 140737488351232)]
      (.need [((cond (r03_maybeF a0.cls) (r03_maybeF a0.zone) false) = true) → (a0.node.size ≤ 140737488351232)]
        (.need [((cond (cond (r03_maybeF a0.cls) (r03_maybeF a0.zone) false) (r03_maybeF a0.node) false) = true) → (a0.claim.size ≤ 140737488351232)]
          (.need [((cond (cond (cond (r03_maybeF a0.cls) (r03_maybeF a0.zone) false) (r03_maybeF a0.node) false) (r03_maybeF a0.claim) false) = true) → (a0.volume.size ≤ 140737488351232)]
            (.need [((cond (cond (cond (cond (r03_maybeF a0.cls) (r03_maybeF a0.zone) false) (r03_maybeF a0.node) false) (r03_maybeF a0.claim) false) (r03_maybeF a0.volume) false) = true) → (a0.source.size ≤ 140737488351232)]
              (.need [a0.name.size ≤ 140737488351232]
                (.ask (cond (cond (cond (cond (cond (cond (!(r03_NameF a0.name)) true (!((a0.kind == ((r03_bareF a0).kind)) && ((decide (a0.name = ((r03_bareF a0).name))) && ((a0.version == ((r03_bareF a0).version)) && ((a0.born == ((r03_bareF a0).born)) && ((a0.deleting == ((r03_bareF a0).deleting)) && ((a0.hold == ((r03_bareF a0).hold)) && ((decide (a0.cls = ((r03_bareF a0).cls))) && ((a0.size == ((r03_bareF a0).size)) && ((a0.got == ((r03_bareF a0).got)) && ((a0.mode == ((r03_bareF a0).mode)) && ((a0.keep == ((r03_bareF a0).keep)) && ((a0.wait == ((r03_bareF a0).wait)) && ((decide (a0.zone = ((r03_bareF a0).zone))) && ((decide (a0.node = ((r03_bareF a0).node))) && ((decide (a0.claim = ((r03_bareF a0).claim))) && ((decide (a0.volume = ((r03_bareF a0).volume))) && ((decide (a0.source = ((r03_bareF a0).source))) && ((a0.phase == ((r03_bareF a0).phase)) && ((a0.num == ((r03_bareF a0).num)) && (a0.tag == ((r03_bareF a0).tag))))))))))))))))))))))) true (!(cond (cond (cond (cond (cond (r03_maybeF a0.cls) (r03_maybeF a0.zone) false) (r03_maybeF a0.node) false) (r03_maybeF a0.claim) false) (r03_maybeF a0.volume) false) (r03_maybeF a0.source) false))) true (decide (a0.size < (0 : Int)))) true (decide (a0.size > (1125899906842624 : Int)))) true (decide (a0.got < (0 : Int)))) true (decide (a0.got > (1125899906842624 : Int))))
                  (.leaf .ret ⟨slots 262 [(2, .bool false)], []⟩ [])
                  (.ask (a0.kind == (1 : Int))
                    (.leaf .ret ⟨slots 262 [(2, .bool true)], []⟩ [])
                    (.ask (a0.kind == (2 : Int))
                      (.need [((!(decide (a0.zone = (⟨#[]⟩ : ByteArray)))) = true) → (a0.name.size ≤ 140737488351232)]
                        (.leaf .ret ⟨slots 262 [(2, .bool (cond (!(decide (a0.zone = (⟨#[]⟩ : ByteArray)))) (r03_plainF a0.name) false))], []⟩ []))
                      (.ask (a0.kind == (3 : Int))
                        (.leaf .ret ⟨slots 262 [(2, .bool (cond (cond (cond (cond (!(decide (a0.cls = (⟨#[]⟩ : ByteArray)))) (!(a0.size == (0 : Int))) false) (cond (a0.mode == (1 : Int)) true (a0.mode == (2 : Int))) false) (cond (cond (a0.phase == (1 : Int)) true (a0.phase == (2 : Int))) true (a0.phase == (3 : Int))) false) ((!(decide (a0.volume = (⟨#[]⟩ : ByteArray)))) == (a0.phase == (3 : Int))) false))], []⟩ [])
                        (.ask (a0.kind == (4 : Int))
                          (.leaf .ret ⟨slots 262 [(2, .bool (cond (cond (cond (cond (cond (cond (!(decide (a0.cls = (⟨#[]⟩ : ByteArray)))) (!(decide (a0.zone = (⟨#[]⟩ : ByteArray)))) false) (!(a0.size == (0 : Int))) false) (!(a0.got == (0 : Int))) false) (cond (a0.mode == (1 : Int)) true (a0.mode == (2 : Int))) false) (cond (cond (cond (a0.phase == (4 : Int)) true (a0.phase == (3 : Int))) true (a0.phase == (5 : Int))) true (a0.phase == (6 : Int))) false) (cond (!(decide (a0.claim = (⟨#[]⟩ : ByteArray)))) true (cond (!(a0.phase == (3 : Int))) (!(a0.phase == (5 : Int))) false)) false))], []⟩ [])
                          (.ask (a0.kind == (5 : Int))
                            (.need [((cond (!(decide (a0.volume = (⟨#[]⟩ : ByteArray)))) (!(decide (a0.node = (⟨#[]⟩ : ByteArray)))) false) = true) → (a0.node.size ≤ 140737488351232), ((cond (cond (!(decide (a0.volume = (⟨#[]⟩ : ByteArray)))) (!(decide (a0.node = (⟨#[]⟩ : ByteArray)))) false) (r03_plainF a0.node) false) = true) → (a0.volume.size ≤ 140737488351232), ((cond (cond (!(decide (a0.volume = (⟨#[]⟩ : ByteArray)))) (!(decide (a0.node = (⟨#[]⟩ : ByteArray)))) false) (r03_plainF a0.node) false) = true) → (a0.node.size ≤ 140737488351232)]
                              (.leaf .ret ⟨slots 262 [(2, .bool (cond (cond (cond (cond (!(decide (a0.volume = (⟨#[]⟩ : ByteArray)))) (!(decide (a0.node = (⟨#[]⟩ : ByteArray)))) false) (r03_plainF a0.node) false) (decide (a0.name = (r03_AttachNameF a0.volume a0.node))) false) (cond (cond (a0.phase == (7 : Int)) true (a0.phase == (8 : Int))) true (a0.phase == (9 : Int))) false))], []⟩ []))
                            (.ask (a0.kind == (6 : Int))
                              (.leaf .ret ⟨slots 262 [(2, .bool (!(decide (a0.claim = (⟨#[]⟩ : ByteArray)))))], []⟩ [])
                              (.ask (a0.kind == (7 : Int))
                                (.leaf .ret ⟨slots 262 [(2, .bool (cond (!(decide (a0.source = (⟨#[]⟩ : ByteArray)))) (cond (cond (cond (a0.phase == (1 : Int)) true (a0.phase == (10 : Int))) true (a0.phase == (11 : Int))) true (a0.phase == (6 : Int))) false))], []⟩ [])
                                (.leaf .ret ⟨slots 262 [(2, .bool false)], []⟩ []))))))))))))))))
theorem r03_RightF_tr (a0 : XObj) (hp0 : a0.Fine) : Tr Tryd.prog 0 (bodyOf Tryd.f28) (fnBegins Tryd.f28 [.agg (oc a0)] []) (fnEnds Tryd.prog Tryd.f28 (.bool (r03_RightF a0)) []) := by
  refine Tr_tree (kok _ _ _ _ _ _) (E := E_r03_Right) (L := noLoops) 60 9999 LoopsOk.none (r03_RightR a0) (by kernel_rfl) (by kernel_rfl) (by kernel_rfl) ?_
  unfold r03_RightR
  refine ⟨need_cons (by first | (have hz := hp0; unfold XObj.Fine at hz; omega) | (intros; have hz := hp0; unfold XObj.Fine at hz; omega)) (need_nil), ?_⟩
  refine ⟨need_cons (by first | (have hz := hp0; unfold XObj.Fine at hz; omega) | (intros; have hz := hp0; unfold XObj.Fine at hz; omega)) (need_nil), ?_⟩
  refine ⟨need_cons (by first | (have hz := hp0; unfold XObj.Fine at hz; omega) | (intros; have hz := hp0; unfold XObj.Fine at hz; omega)) (need_nil), ?_⟩
  refine ⟨need_cons (by first | (have hz := hp0; unfold XObj.Fine at hz; omega) | (intros; have hz := hp0; unfold XObj.Fine at hz; omega)) (need_nil), ?_⟩
  refine ⟨need_cons (by first | (have hz := hp0; unfold XObj.Fine at hz; omega) | (intros; have hz := hp0; unfold XObj.Fine at hz; omega)) (need_nil), ?_⟩
  refine ⟨need_cons (by first | (have hz := hp0; unfold XObj.Fine at hz; omega) | (intros; have hz := hp0; unfold XObj.Fine at hz; omega)) (need_nil), ?_⟩
  refine ⟨need_cons (by first | (have hz := hp0; unfold XObj.Fine at hz; omega) | (intros; have hz := hp0; unfold XObj.Fine at hz; omega)) (need_nil), ?_⟩
  refine ⟨fun h0 => ?_, fun h0 => ?_⟩
  · have hF : r03_RightF a0 = false := by first | exact (cond_t h0 rfl) | simp only [r03_RightF, h0, cond_true, cond_false]
    exact ⟨trivial, .inl (by first | (rw [hF]; kernel_rfl) | kernel_rfl), by first | (rw [hF]; kernel_rfl) | kernel_rfl⟩
  · refine ⟨fun h1 => ?_, fun h1 => ?_⟩
    · have hF : r03_RightF a0 = true := by first | exact (cond_f h0 (cond_t h1 rfl)) | simp only [r03_RightF, h0, h1, cond_true, cond_false]
      exact ⟨trivial, .inl (by first | (rw [hF]; kernel_rfl) | kernel_rfl), by first | (rw [hF]; kernel_rfl) | kernel_rfl⟩
    · refine ⟨fun h2 => ?_, fun h2 => ?_⟩
      · refine ⟨need_cons (by first | (have hz := hp0; unfold XObj.Fine at hz; omega) | (intros; have hz := hp0; unfold XObj.Fine at hz; omega)) (need_nil), ?_⟩
        have hF : r03_RightF a0 = cond (!(decide (a0.zone = (⟨#[]⟩ : ByteArray)))) (r03_plainF a0.name) false := by first | exact (cond_f h0 (cond_f h1 (cond_t h2 rfl))) | simp only [r03_RightF, h0, h1, h2, cond_true, cond_false]
        exact ⟨trivial, .inl (by first | (rw [hF]; kernel_rfl) | kernel_rfl), by first | (rw [hF]; kernel_rfl) | kernel_rfl⟩
      · refine ⟨fun h3 => ?_, fun h3 => ?_⟩
        · have hF : r03_RightF a0 = cond (cond (cond (cond (!(decide (a0.cls = (⟨#[]⟩ : ByteArray)))) (!(a0.size == (0 : Int))) false) (cond (a0.mode == (1 : Int)) true (a0.mode == (2 : Int))) false) (cond (cond (a0.phase == (1 : Int)) true (a0.phase == (2 : Int))) true (a0.phase == (3 : Int))) false) ((!(decide (a0.volume = (⟨#[]⟩ : ByteArray)))) == (a0.phase == (3 : Int))) false := by first | exact (cond_f h0 (cond_f h1 (cond_f h2 (cond_t h3 rfl)))) | simp only [r03_RightF, h0, h1, h2, h3, cond_true, cond_false]
          exact ⟨trivial, .inl (by first | (rw [hF]; kernel_rfl) | kernel_rfl), by first | (rw [hF]; kernel_rfl) | kernel_rfl⟩
        · refine ⟨fun h4 => ?_, fun h4 => ?_⟩
          · have hF : r03_RightF a0 = cond (cond (cond (cond (cond (cond (!(decide (a0.cls = (⟨#[]⟩ : ByteArray)))) (!(decide (a0.zone = (⟨#[]⟩ : ByteArray)))) false) (!(a0.size == (0 : Int))) false) (!(a0.got == (0 : Int))) false) (cond (a0.mode == (1 : Int)) true (a0.mode == (2 : Int))) false) (cond (cond (cond (a0.phase == (4 : Int)) true (a0.phase == (3 : Int))) true (a0.phase == (5 : Int))) true (a0.phase == (6 : Int))) false) (cond (!(decide (a0.claim = (⟨#[]⟩ : ByteArray)))) true (cond (!(a0.phase == (3 : Int))) (!(a0.phase == (5 : Int))) false)) false := by first | exact (cond_f h0 (cond_f h1 (cond_f h2 (cond_f h3 (cond_t h4 rfl))))) | simp only [r03_RightF, h0, h1, h2, h3, h4, cond_true, cond_false]
            exact ⟨trivial, .inl (by first | (rw [hF]; kernel_rfl) | kernel_rfl), by first | (rw [hF]; kernel_rfl) | kernel_rfl⟩
          · refine ⟨fun h5 => ?_, fun h5 => ?_⟩
            · refine ⟨need_cons (by first | (have hz := hp0; unfold XObj.Fine at hz; omega) | (intros; have hz := hp0; unfold XObj.Fine at hz; omega)) (need_cons (by first | (have hz := hp0; unfold XObj.Fine at hz; omega) | (intros; have hz := hp0; unfold XObj.Fine at hz; omega)) (need_cons (by first | (have hz := hp0; unfold XObj.Fine at hz; omega) | (intros; have hz := hp0; unfold XObj.Fine at hz; omega)) (need_nil))), ?_⟩
              have hF : r03_RightF a0 = cond (cond (cond (cond (!(decide (a0.volume = (⟨#[]⟩ : ByteArray)))) (!(decide (a0.node = (⟨#[]⟩ : ByteArray)))) false) (r03_plainF a0.node) false) (decide (a0.name = (r03_AttachNameF a0.volume a0.node))) false) (cond (cond (a0.phase == (7 : Int)) true (a0.phase == (8 : Int))) true (a0.phase == (9 : Int))) false := by first | exact (cond_f h0 (cond_f h1 (cond_f h2 (cond_f h3 (cond_f h4 (cond_t h5 rfl)))))) | simp only [r03_RightF, h0, h1, h2, h3, h4, h5, cond_true, cond_false]
              exact ⟨trivial, .inl (by first | (rw [hF]; kernel_rfl) | kernel_rfl), by first | (rw [hF]; kernel_rfl) | kernel_rfl⟩
            · refine ⟨fun h6 => ?_, fun h6 => ?_⟩
              · have hF : r03_RightF a0 = !(decide (a0.claim = (⟨#[]⟩ : ByteArray))) := by first | exact (cond_f h0 (cond_f h1 (cond_f h2 (cond_f h3 (cond_f h4 (cond_f h5 (cond_t h6 rfl))))))) | simp only [r03_RightF, h0, h1, h2, h3, h4, h5, h6, cond_true, cond_false]
                exact ⟨trivial, .inl (by first | (rw [hF]; kernel_rfl) | kernel_rfl), by first | (rw [hF]; kernel_rfl) | kernel_rfl⟩
              · refine ⟨fun h7 => ?_, fun h7 => ?_⟩
                · have hF : r03_RightF a0 = cond (!(decide (a0.source = (⟨#[]⟩ : ByteArray)))) (cond (cond (cond (a0.phase == (1 : Int)) true (a0.phase == (10 : Int))) true (a0.phase == (11 : Int))) true (a0.phase == (6 : Int))) false := by first | exact (cond_f h0 (cond_f h1 (cond_f h2 (cond_f h3 (cond_f h4 (cond_f h5 (cond_f h6 (cond_t h7 rfl)))))))) | simp only [r03_RightF, h0, h1, h2, h3, h4, h5, h6, h7, cond_true, cond_false]
                  exact ⟨trivial, .inl (by first | (rw [hF]; kernel_rfl) | kernel_rfl), by first | (rw [hF]; kernel_rfl) | kernel_rfl⟩
                · have hF : r03_RightF a0 = false := by first | exact (cond_f h0 (cond_f h1 (cond_f h2 (cond_f h3 (cond_f h4 (cond_f h5 (cond_f h6 (cond_f h7 rfl)))))))) | simp only [r03_RightF, h0, h1, h2, h3, h4, h5, h6, h7, cond_true, cond_false]
                  exact ⟨trivial, .inl (by first | (rw [hF]; kernel_rfl) | kernel_rfl), by first | (rw [hF]; kernel_rfl) | kernel_rfl⟩
noncomputable def r03_Right_fact : Fact Tryd.prog := factOf 28 Tryd.f28 (by kernel_rfl) rfl (by kernel_rfl) [.st .obj] [] true (fun t u => .bool (r03_RightF t.1)) (fun t u => []) (fun t u => [t.1.Fine])
  (fun _ _ _ => rfl) (fun t u => by kernel_rfl) (fun t u => by kernel_rfl) (fun t u h => r03_RightF_tr t.1 (h _ List.mem_cons_self))
noncomputable def E_w12_right : Env := envOf (P := Tryd.prog) [r03_Right_fact] [] [] ckf
def w12_rightLF  : List XObj → Bool
  | [] => false
  | o :: r => cond (!(r03_RightF o))
    true
    (w12_rightLF r)
def w12_rightLS (a0 : List XObj) (i : Nat) : St :=
  ⟨slots 16 [(0, .coll ⟨.obj, a0⟩), (3, .int .i64 (i : Int))], []⟩
def w12_rightLR (a0 : List XObj) (i : Nat) : RT :=
  (.ask (decide ((i : Int) < (a0.length : Int)))
    (.need [0 ≤ (i : Int) ∧ (i : Int) < (a0.length : Int)]
      (.need [(a0.getD i default).Fine]
        (.ask (!(r03_RightF (a0.getD i default)))
          (.leaf .ret ⟨slots 16 [(2, .bool false)], []⟩ [])
          (.leaf .normal ⟨slots 16 [(0, .coll ⟨.obj, a0⟩), (3, .int .i64 (IntKind.i64.wrap ((i : Int) + (1 : Int))))], []⟩ []))))
    (.leaf (.exit 0) ⟨slots 16 [], []⟩ []))
def w12_rightLT (a0 : List XObj) (i : Nat) : Tree :=
  .ask (w12_rightLF (a0.drop i)) (.leaf .ret ⟨slots 16 [(2, .bool false)], []⟩) (.leaf (.exit 0) ⟨slots 16 [], []⟩)
theorem w12_rightL_loop (a0 : List XObj) (hp0 : a0.length < 4611686018427387904) (hp1 : ∀ o ∈ a0, o.Fine) (hlen : a0.length < 4611686018427387904) (z : { z : Nat // z ≤ a0.length }) (Q : Exit → St → Prop) (h : (w12_rightLT a0 z.1).All Q) : Tr Tryd.prog 0 (.loop (loopAt Tryd.f25 0)) (w12_rightLS a0 z.1) Q := by
  refine Tr_loopT (kok _ _ _ _ _ _) (E := E_w12_right) (ι := { z : Nat // z ≤ a0.length }) 60 0 (fun _ => noLoops) (fun z => w12_rightLS a0 z.1) (fun z => w12_rightLT a0 z.1) (fun z => w12_rightLR a0 z.1) (fun z => a0.length - z.1) (fun _ => LoopsOk.none) (fun z => by obtain ⟨i, hi⟩ := z; kernel_rfl) (fun z => by obtain ⟨i, hi⟩ := z; kernel_rfl) (fun z => by obtain ⟨i, hi⟩ := z; kernel_rfl) ?_ z Q h
  rintro ⟨i, hi⟩ Q hT
  replace hT : (w12_rightLT a0 i).All Q := hT
  replace hi : i ≤ a0.length := hi
  show (w12_rightLR a0 i).All _
  unfold w12_rightLR
  refine ⟨fun h0 => ?_, fun h0 => ?_⟩
  · have hlt : i < a0.length := by simpa using h0
    have hd := drop_getD hlt
    have hw := wrap_succ (i := i) (by omega)
    refine ⟨need_cons (by first | assumption | omega | (intro; omega) | (simp only [decide_eq_true_eq, decide_eq_false_iff_not, Bool.cond_false_right, Bool.cond_true_right, Bool.cond_true_left, Bool.cond_false_left, Bool.and_eq_true, Bool.or_eq_true, Bool.not_eq_true', bytesLim, maxLen, List.length_cons, List.length_nil, List.length_append, byteSize_lit] at *; omega) | (intro; simp only [decide_eq_true_eq, decide_eq_false_iff_not, Bool.cond_false_right, Bool.cond_true_right, Bool.cond_true_left, Bool.cond_false_left, Bool.and_eq_true, Bool.or_eq_true, Bool.not_eq_true', bytesLim, maxLen, List.length_cons, List.length_nil, List.length_append, byteSize_lit] at *; omega)) (need_nil), ?_⟩
    refine ⟨need_cons (by (try refine fun (_ : _ = _) => ?_); first | assumption | exact get_fine _ _ _ (by first | assumption | exact of_fine _ (by first | assumption | exact w12_few_fine (by assumption)) | exact r12_Uniq_fine _ (by first | assumption | exact w12_few_fine (by assumption)) | exact w12_few_fine (by assumption)) | exact r12_Get_fine _ _ _ (by first | assumption | exact of_fine _ (by first | assumption | exact w12_few_fine (by assumption)) | exact r12_Uniq_fine _ (by first | assumption | exact w12_few_fine (by assumption)) | exact w12_few_fine (by assumption)) | exact fine_default | exact hp1 _ (gD_mem (by assumption)) | exact r12_Uniq_fine _ (by assumption) _ (gD_mem (by assumption)) | exact of_fine _ (by assumption) _ (gD_mem (by assumption)) | exact w12_few_fine (by assumption) _ (gD_mem (by assumption)) | exact hp1 | exact hp0 | (refine ⟨?_, ?_, ?_, ?_, ?_, ?_, ?_, ?_, ?_⟩ <;> first | assumption | decide | (simp only [size_mk]; decide))) (need_nil), ?_⟩
    refine ⟨fun h1 => ?_, fun h1 => ?_⟩
    · have hF : w12_rightLF (a0.drop i) = true := by rw [hd]; first | exact (cond_t h1 rfl) | simp only [w12_rightLF, h0, h1, cond_true, cond_false]
      unfold w12_rightLT at hT
      rw [hF] at hT
      exact hT.1 rfl
    · have hF : w12_rightLF (a0.drop i) = w12_rightLF (a0.drop (i + 1)) := by rw [hd]; first | exact (cond_f h1 rfl) | simp only [w12_rightLF, h0, h1, cond_true, cond_false]
      refine ⟨⟨(i + 1), by show (i + 1) ≤ a0.length; omega⟩, by show a0.length - (i + 1) < a0.length - i; omega, ?_, ?_⟩
      · show _ = w12_rightLS a0 (i + 1)
        unfold w12_rightLS
        simp only [hw]
      · show (w12_rightLT a0 (i + 1)).All Q
        unfold w12_rightLT at hT ⊢
        rw [hF] at hT
        exact hT
  · have hge : ¬ i < a0.length := by simpa using h0
    have hd : a0.drop i = [] := List.drop_eq_nil_of_le (by omega)
    have hF : w12_rightLF (a0.drop i) = false := by rw [hd]; first | exact rfl | simp only [w12_rightLF, h0, cond_true, cond_false]
    unfold w12_rightLT at hT
    rw [hF] at hT
    exact hT.2 rfl
def w12_rightF (a0 : List XObj) : Bool :=
  cond (w12_rightLF a0)
    false
    true
def w12_rightR (a0 : List XObj) : RT :=
  (.ask (w12_rightLF a0)
    (.leaf .ret ⟨slots 16 [(2, .bool false)], []⟩ [])
    (.leaf .ret ⟨slots 16 [(2, .bool true)], []⟩ []))
theorem w12_rightF_tr (a0 : List XObj) (hp0 : a0.length < 4611686018427387904) (hp1 : ∀ o ∈ a0, o.Fine) : Tr Tryd.prog 0 (bodyOf Tryd.f25) (fnBegins Tryd.f25 [.coll ⟨.obj, a0⟩] []) (fnEnds Tryd.prog Tryd.f25 (.bool (w12_rightF a0)) []) := by
  refine Tr_tree (kok _ _ _ _ _ _) (E := E_w12_right) (L := (loopsOf [(0, w12_rightLS a0 0, [], w12_rightLT a0 0)])) 60 9999 (LoopsOk.one (g := loopAt Tryd.f25 0) (b := 0) (by kernel_rfl) (by kernel_rfl) (by kernel_rfl) (by kernel_rfl) (fun Q h => w12_rightL_loop a0 hp0 hp1 (by first | assumption | omega | exact of_short _ (by first | assumption | omega | exact Nat.le_trans (w12_few_len _) (by decide)) | exact r12_Uniq_short _ (by first | assumption | omega | exact Nat.le_trans (w12_few_len _) (by decide)) | exact Nat.lt_of_le_of_lt (w12_few_len _) (by decide) | decide | (simp only [List.length_append, List.length_cons, List.length_nil]; have := w12_few_len a0; omega)) ⟨0, Nat.zero_le _⟩ Q h)) (w12_rightR a0) (by kernel_rfl) (by kernel_rfl) (by kernel_rfl) ?_
  unfold w12_rightR
  refine ⟨fun h0 => ?_, fun h0 => ?_⟩
  · have hF : w12_rightF a0 = false := by first | exact (cond_t h0 rfl) | simp only [w12_rightF, h0, cond_true, cond_false]
    exact ⟨trivial, .inl (by first | (rw [hF]; kernel_rfl) | kernel_rfl), by first | (rw [hF]; kernel_rfl) | kernel_rfl⟩
  · have hF : w12_rightF a0 = true := by first | exact (cond_f h0 rfl) | simp only [w12_rightF, h0, cond_true, cond_false]
    exact ⟨trivial, .inl (by first | (rw [hF]; kernel_rfl) | kernel_rfl), by first | (rw [hF]; kernel_rfl) | kernel_rfl⟩
noncomputable def w12_right_fact : Fact Tryd.prog := factOf 25 Tryd.f25 (by kernel_rfl) rfl (by kernel_rfl) [.c (.coll .obj)] [] true (fun t u => .bool (w12_rightF t.1)) (fun t u => []) (fun t u => [t.1.length < 4611686018427387904, ∀ o ∈ t.1, o.Fine])
  (fun _ _ _ => rfl) (fun t u => by kernel_rfl) (fun t u => by kernel_rfl) (fun t u h => w12_rightF_tr t.1 (h _ List.mem_cons_self) (h _ (List.mem_cons_of_mem _ List.mem_cons_self)))
end Go.Proofs.YtnfmnipckcidlaaDoor
