/- Topo: what a text says, as the document says. -/
import Derived.Test.YtbjlmmeabonbpaaDoorDH1
set_option linter.unusedVariables false
set_option linter.unusedSimpArgs false
set_option maxRecDepth 100000
namespace Go.Proofs.YtbjlmmeabonbpaaDoor
open Go Go.Eng
noncomputable def E_r02_Parse : Env := envOf (P := Tryd.prog) [split1_fact, strings_Cut_fact, r02_RightTerms_fact] [] [] ckf
def r02_ParseLF  : List ByteArray → List XTerm → Bool × List XTerm
  | [], v2 => (false, v2)
  | o :: r, v2 => cond (!((strings_CutF o (⟨#[61]⟩ : ByteArray)).2.2))
    (true, default)
    (r02_ParseLF r (v2 ++ [(⟨(strings_CutF o (⟨#[61]⟩ : ByteArray)).1, split1 ((strings_CutF o (⟨#[61]⟩ : ByteArray)).2.1) (⟨#[124]⟩ : ByteArray)⟩ : XTerm)]))
def r02_ParseLS (a0 : ByteArray) (i : Nat) (v2 : List XTerm) : St :=
  ⟨slots 42 [(4, .vec 0), (5, .coll ⟨.str, split1 a0 (⟨#[44]⟩ : ByteArray)⟩), (6, .int .i64 (i : Int))], [.vec true ⟨.term, v2⟩]⟩
def r02_ParseLR (a0 : ByteArray) (i : Nat) (v2 : List XTerm) : RT :=
  (.ask (decide ((i : Int) < ((split1 a0 (⟨#[44]⟩ : ByteArray)).length : Int)))
    (.need [0 ≤ (i : Int) ∧ (i : Int) < ((split1 a0 (⟨#[44]⟩ : ByteArray)).length : Int)]
      (.need [(⟨#[61]⟩ : ByteArray).size = 1, ((split1 a0 (⟨#[44]⟩ : ByteArray)).getD i default).size < 4611686018427387904]
        (.ask (!((strings_CutF ((split1 a0 (⟨#[44]⟩ : ByteArray)).getD i default) (⟨#[61]⟩ : ByteArray)).2.2))
          (.leaf .ret ⟨slots 42 [(2, .vec 0), (3, .int .i64 2)], [.vec true ⟨.term, []⟩]⟩ [1])
          (.need [((strings_CutF ((split1 a0 (⟨#[44]⟩ : ByteArray)).getD i default) (⟨#[61]⟩ : ByteArray)).2.1).size ≤ 4294967280, (⟨#[124]⟩ : ByteArray).size = 1]
            (.need [(v2.length + [(⟨(strings_CutF ((split1 a0 (⟨#[44]⟩ : ByteArray)).getD i default) (⟨#[61]⟩ : ByteArray)).1, split1 ((strings_CutF ((split1 a0 (⟨#[44]⟩ : ByteArray)).getD i default) (⟨#[61]⟩ : ByteArray)).2.1) (⟨#[124]⟩ : ByteArray)⟩ : XTerm)].length) * 40 ≤ bytesLim ∧ v2.length + [(⟨(strings_CutF ((split1 a0 (⟨#[44]⟩ : ByteArray)).getD i default) (⟨#[61]⟩ : ByteArray)).1, split1 ((strings_CutF ((split1 a0 (⟨#[44]⟩ : ByteArray)).getD i default) (⟨#[61]⟩ : ByteArray)).2.1) (⟨#[124]⟩ : ByteArray)⟩ : XTerm)].length ≤ maxLen]
              (.leaf .normal ⟨slots 42 [(4, .vec 0), (5, .coll ⟨.str, split1 a0 (⟨#[44]⟩ : ByteArray)⟩), (6, .int .i64 (IntKind.i64.wrap ((i : Int) + (1 : Int))))], [.vec true ⟨.term, (v2 ++ [(⟨(strings_CutF ((split1 a0 (⟨#[44]⟩ : ByteArray)).getD i default) (⟨#[61]⟩ : ByteArray)).1, split1 ((strings_CutF ((split1 a0 (⟨#[44]⟩ : ByteArray)).getD i default) (⟨#[61]⟩ : ByteArray)).2.1) (⟨#[124]⟩ : ByteArray)⟩ : XTerm)])⟩]⟩ [2]))))))
    (.leaf (.exit 0) ⟨slots 42 [(4, .vec 0)], [.vec true ⟨.term, v2⟩]⟩ []))
def r02_ParseLT (a0 : ByteArray) (i : Nat) (v2 : List XTerm) : Tree :=
  .ask ((r02_ParseLF ((split1 a0 (⟨#[44]⟩ : ByteArray)).drop i) v2).1) (.leaf .ret ⟨slots 42 [(2, .vec 0), (3, .int .i64 (2 : Int))], [.vec true ⟨.term, []⟩]⟩) (.leaf (.exit 0) ⟨slots 42 [(4, .vec 0)], [.vec true ⟨.term, (r02_ParseLF ((split1 a0 (⟨#[44]⟩ : ByteArray)).drop i) v2).2⟩]⟩)
theorem r02_ParseL_loop (a0 : ByteArray) (hp0 : a0.size ≤ 4294967280) (hlen : (split1 a0 (⟨#[44]⟩ : ByteArray)).length < 4611686018427387904) (z : { z : Nat × List XTerm // z.1 ≤ (split1 a0 (⟨#[44]⟩ : ByteArray)).length ∧ z.2.length ≤ z.1 }) (Q : Exit → St → Prop) (h : (r02_ParseLT a0 z.1.1 z.1.2).All Q) : Tr Tryd.prog 0 (.loop (loopAt Tryd.f13 0)) (r02_ParseLS a0 z.1.1 z.1.2) Q := by
  refine Tr_loopT (kok _ _ _ _ _ _) (E := E_r02_Parse) (ι := { z : Nat × List XTerm // z.1 ≤ (split1 a0 (⟨#[44]⟩ : ByteArray)).length ∧ z.2.length ≤ z.1 }) 60 0 (fun _ => noLoops) (fun z => r02_ParseLS a0 z.1.1 z.1.2) (fun z => r02_ParseLT a0 z.1.1 z.1.2) (fun z => r02_ParseLR a0 z.1.1 z.1.2) (fun z => (split1 a0 (⟨#[44]⟩ : ByteArray)).length - z.1.1) (fun _ => LoopsOk.none) (fun z => by obtain ⟨⟨i, v2⟩, hi⟩ := z; kernel_rfl) (fun z => by obtain ⟨⟨i, v2⟩, hi⟩ := z; kernel_rfl) (fun z => by obtain ⟨⟨i, v2⟩, hi⟩ := z; kernel_rfl) ?_ z Q h
  rintro ⟨⟨i, v2⟩, hi⟩ Q hT
  replace hT : (r02_ParseLT a0 i v2).All Q := hT
  replace hi : i ≤ (split1 a0 (⟨#[44]⟩ : ByteArray)).length ∧ v2.length ≤ i := hi
  show (r02_ParseLR a0 i v2).All _
  unfold r02_ParseLR
  refine ⟨fun h0 => ?_, fun h0 => ?_⟩
  · have hlt : i < (split1 a0 (⟨#[44]⟩ : ByteArray)).length := by simpa using h0
    have hd := drop_getD hlt
    have hw := wrap_succ (i := i) (by omega)
    refine ⟨need_cons (by constructor <;> omega) (need_nil), ?_⟩
    refine ⟨need_cons (by rfl) (need_cons (by have h9 := split1_size a0 (⟨#[44]⟩ : ByteArray) _ (gD_mem hlt); omega) (need_nil)), ?_⟩
    refine ⟨fun h1 => ?_, fun h1 => ?_⟩
    · have hF : r02_ParseLF ((split1 a0 (⟨#[44]⟩ : ByteArray)).drop i) v2 = (true, default) := by rw [hd]; first | exact (cond_t h1 rfl) | simp only [r02_ParseLF, h0, h1, cond_true, cond_false]
      unfold r02_ParseLT at hT
      rw [hF] at hT
      exact hT.1 rfl
    · refine ⟨need_cons (by have h9 := split1_size a0 (⟨#[44]⟩ : ByteArray) _ (gD_mem hlt); have h8 := cut_size ((split1 a0 (⟨#[44]⟩ : ByteArray)).getD i default) (⟨#[61]⟩ : ByteArray) rfl (by omega); omega) (need_cons (by rfl) (need_nil)), ?_⟩
      refine ⟨need_cons (by have h9 := split1_len a0 (⟨#[44]⟩ : ByteArray) rfl; unfold bytesLim maxLen; simp only [List.length_cons, List.length_nil]; omega) (need_nil), ?_⟩
      have hF : r02_ParseLF ((split1 a0 (⟨#[44]⟩ : ByteArray)).drop i) v2 = r02_ParseLF ((split1 a0 (⟨#[44]⟩ : ByteArray)).drop (i + 1)) (v2 ++ [(⟨(strings_CutF ((split1 a0 (⟨#[44]⟩ : ByteArray)).getD i default) (⟨#[61]⟩ : ByteArray)).1, split1 ((strings_CutF ((split1 a0 (⟨#[44]⟩ : ByteArray)).getD i default) (⟨#[61]⟩ : ByteArray)).2.1) (⟨#[124]⟩ : ByteArray)⟩ : XTerm)]) := by rw [hd]; first | exact (cond_f h1 rfl) | simp only [r02_ParseLF, h0, h1, cond_true, cond_false]
      refine ⟨⟨((i + 1), (v2 ++ [(⟨(strings_CutF ((split1 a0 (⟨#[44]⟩ : ByteArray)).getD i default) (⟨#[61]⟩ : ByteArray)).1, split1 ((strings_CutF ((split1 a0 (⟨#[44]⟩ : ByteArray)).getD i default) (⟨#[61]⟩ : ByteArray)).2.1) (⟨#[124]⟩ : ByteArray)⟩ : XTerm)])), by (first | dsimp only | skip); constructor <;> (try simp only [List.length_append, List.length_cons, List.length_nil]) <;> omega⟩, by show (split1 a0 (⟨#[44]⟩ : ByteArray)).length - (i + 1) < (split1 a0 (⟨#[44]⟩ : ByteArray)).length - i; omega, ?_, ?_⟩
      · show _ = r02_ParseLS a0 (i + 1) (v2 ++ [(⟨(strings_CutF ((split1 a0 (⟨#[44]⟩ : ByteArray)).getD i default) (⟨#[61]⟩ : ByteArray)).1, split1 ((strings_CutF ((split1 a0 (⟨#[44]⟩ : ByteArray)).getD i default) (⟨#[61]⟩ : ByteArray)).2.1) (⟨#[124]⟩ : ByteArray)⟩ : XTerm)])
        unfold r02_ParseLS
        simp only [hw]
      · show (r02_ParseLT a0 (i + 1) (v2 ++ [(⟨(strings_CutF ((split1 a0 (⟨#[44]⟩ : ByteArray)).getD i default) (⟨#[61]⟩ : ByteArray)).1, split1 ((strings_CutF ((split1 a0 (⟨#[44]⟩ : ByteArray)).getD i default) (⟨#[61]⟩ : ByteArray)).2.1) (⟨#[124]⟩ : ByteArray)⟩ : XTerm)])).All Q
        unfold r02_ParseLT at hT ⊢
        rw [hF] at hT
        exact hT
  · have hge : ¬ i < (split1 a0 (⟨#[44]⟩ : ByteArray)).length := by simpa using h0
    have hd : (split1 a0 (⟨#[44]⟩ : ByteArray)).drop i = [] := List.drop_eq_nil_of_le (by omega)
    have hF : r02_ParseLF ((split1 a0 (⟨#[44]⟩ : ByteArray)).drop i) v2 = (false, v2) := by rw [hd]; first | exact rfl | simp only [r02_ParseLF, h0, cond_true, cond_false]
    unfold r02_ParseLT at hT
    rw [hF] at hT
    exact hT.2 rfl
theorem r02_ParseLF_good (N : Nat) (hN : N < 4611686018427387903) : ∀ (l : List ByteArray) (v : List XTerm), (∀ x ∈ l, x.size ≤ N) → (∀ q ∈ v, q.Fine) → (r02_ParseLF l v).2.length ≤ v.length + l.length ∧ ∀ q ∈ (r02_ParseLF l v).2, q.Fine
  | [], v, _, hv => by unfold r02_ParseLF; exact ⟨Nat.le_refl _, hv⟩
  | o :: r, v, hl, hv => by
    have ho := hl o List.mem_cons_self
    have hc := cut_size o (⟨#[61]⟩ : ByteArray) rfl (by omega)
    unfold r02_ParseLF
    cases (!((strings_CutF o (⟨#[61]⟩ : ByteArray)).2.2)) with
    | true => exact ⟨Nat.zero_le _, fun q hq => by simp at hq; cases hq⟩
    | false =>
      rw [cond_false]
      obtain ⟨h1, h2⟩ := r02_ParseLF_good N hN r (v ++ [(⟨(strings_CutF o (⟨#[61]⟩ : ByteArray)).1, split1 ((strings_CutF o (⟨#[61]⟩ : ByteArray)).2.1) (⟨#[124]⟩ : ByteArray)⟩ : XTerm)]) (fun x hx => hl x (List.mem_cons_of_mem _ hx)) (fun q hq => by
        rcases List.mem_append.1 hq with hq | hq
        · exact hv q hq
        · rw [List.mem_singleton.1 hq]
          have h9 := split1_len (strings_CutF o (⟨#[61]⟩ : ByteArray)).2.1 (⟨#[124]⟩ : ByteArray) rfl
          exact ⟨by show (strings_CutF _ _).1.size < _; omega, by show (split1 _ _).length < _; omega, fun x hx => by have h7 := split1_size _ _ x hx; omega⟩)
      rw [List.length_append, List.length_cons, List.length_nil] at h1
      rw [List.length_cons]
      exact ⟨by omega, h2⟩
theorem r02_Parse_good (s : ByteArray) (h : s.size ≤ 4294967280) : ((r02_ParseLF (split1 s (⟨#[44]⟩ : ByteArray)) []).2).length ≤ 4294967296 ∧ ∀ q ∈ ((r02_ParseLF (split1 s (⟨#[44]⟩ : ByteArray)) []).2), q.Fine := by
  obtain ⟨h1, h2⟩ := r02_ParseLF_good s.size (by omega) (split1 s (⟨#[44]⟩ : ByteArray)) [] (split1_size s _) (fun q hq => by simp at hq)
  have h9 := split1_len s (⟨#[44]⟩ : ByteArray) rfl
  rw [List.length_nil] at h1
  exact ⟨by omega, h2⟩
def r02_ParseF (a0 : ByteArray) : Int × List XTerm :=
  cond (decide (a0 = (⟨#[]⟩ : ByteArray)))
    ((0 : Int), [])
    (cond ((r02_ParseLF (split1 a0 (⟨#[44]⟩ : ByteArray)) []).1)
      ((2 : Int), [])
      (cond (!(r02_RightTermsF ((r02_ParseLF (split1 a0 (⟨#[44]⟩ : ByteArray)) []).2)))
        ((2 : Int), [])
        ((0 : Int), (r02_ParseLF (split1 a0 (⟨#[44]⟩ : ByteArray)) []).2)))
def r02_ParseR (a0 : ByteArray) : RT :=
  (.ask (decide (a0 = (⟨#[]⟩ : ByteArray)))
    (.leaf .ret ⟨slots 42 [(2, .vec 0), (3, .int .i64 0)], [.vec true ⟨.term, []⟩]⟩ [1])
    (.need [a0.size ≤ 4294967280, (⟨#[44]⟩ : ByteArray).size = 1]
      (.ask ((r02_ParseLF (split1 a0 (⟨#[44]⟩ : ByteArray)) []).1)
        (.leaf .ret ⟨slots 42 [(2, .vec 0), (3, .int .i64 (2 : Int))], [.vec true ⟨.term, []⟩]⟩ [])
        (.need [((r02_ParseLF (split1 a0 (⟨#[44]⟩ : ByteArray)) []).2).length ≤ 4294967296, ∀ q ∈ ((r02_ParseLF (split1 a0 (⟨#[44]⟩ : ByteArray)) []).2), q.Fine]
          (.ask (!(r02_RightTermsF ((r02_ParseLF (split1 a0 (⟨#[44]⟩ : ByteArray)) []).2)))
            (.leaf .ret ⟨slots 42 [(2, .vec 0), (3, .int .i64 2)], [.vec true ⟨.term, []⟩]⟩ [1])
            (.leaf .ret ⟨slots 42 [(2, .vec 0), (3, .int .i64 0)], [.vec true ⟨.term, (r02_ParseLF (split1 a0 (⟨#[44]⟩ : ByteArray)) []).2⟩]⟩ []))))))
theorem r02_ParseF_tr (a0 : ByteArray) (hp0 : a0.size ≤ 4294967280) : Tr Tryd.prog 0 (bodyOf Tryd.f13) (fnBegins Tryd.f13 [.str a0] []) (fnEnds Tryd.prog Tryd.f13 (.tup [.vec 0, .int .i64 ((r02_ParseF a0).1)]) [.vec true ⟨.term, (r02_ParseF a0).2⟩]) := by
  refine Tr_tree (kok _ _ _ _ _ _) (E := E_r02_Parse) (L := (loopsOf [(0, r02_ParseLS a0 0 [], [1], r02_ParseLT a0 0 [])])) 60 9999 (LoopsOk.one (g := loopAt Tryd.f13 0) (b := 0) (by kernel_rfl) (by kernel_rfl) (by kernel_rfl) (by kernel_rfl) (fun Q h => r02_ParseL_loop a0 hp0 (by have h9 := split1_len a0 (⟨#[44]⟩ : ByteArray) rfl; omega) ⟨(0, []), ⟨Nat.zero_le _, Nat.le_refl _⟩⟩ Q h)) (r02_ParseR a0) (by kernel_rfl) (by kernel_rfl) (by kernel_rfl) ?_
  unfold r02_ParseR
  refine ⟨fun h0 => ?_, fun h0 => ?_⟩
  · have hF : r02_ParseF a0 = ((0 : Int), []) := by first | exact (cond_t h0 rfl) | simp only [r02_ParseF, h0, cond_true, cond_false]
    exact ⟨trivial, .inl (by first | (rw [hF]; kernel_rfl) | kernel_rfl), by first | (rw [hF]; kernel_rfl) | kernel_rfl⟩
  · refine ⟨need_cons (by assumption) (need_cons (by rfl) (need_nil)), ?_⟩
    refine ⟨fun h1 => ?_, fun h1 => ?_⟩
    · have hF : r02_ParseF a0 = ((2 : Int), []) := by first | exact (cond_f h0 (cond_t h1 rfl)) | simp only [r02_ParseF, h0, h1, cond_true, cond_false]
      exact ⟨trivial, .inl (by first | (rw [hF]; kernel_rfl) | kernel_rfl), by first | (rw [hF]; kernel_rfl) | kernel_rfl⟩
    · refine ⟨need_cons (by exact (r02_Parse_good a0 hp0).1) (need_cons (by exact (r02_Parse_good a0 hp0).2) (need_nil)), ?_⟩
      refine ⟨fun h2 => ?_, fun h2 => ?_⟩
      · have hF : r02_ParseF a0 = ((2 : Int), []) := by first | exact (cond_f h0 (cond_f h1 (cond_t h2 rfl))) | simp only [r02_ParseF, h0, h1, h2, cond_true, cond_false]
        exact ⟨trivial, .inl (by first | (rw [hF]; kernel_rfl) | kernel_rfl), by first | (rw [hF]; kernel_rfl) | kernel_rfl⟩
      · have hF : r02_ParseF a0 = ((0 : Int), (r02_ParseLF (split1 a0 (⟨#[44]⟩ : ByteArray)) []).2) := by first | exact (cond_f h0 (cond_f h1 (cond_f h2 rfl))) | simp only [r02_ParseF, h0, h1, h2, cond_true, cond_false]
        exact ⟨trivial, .inl (by first | (rw [hF]; kernel_rfl) | kernel_rfl), by first | (rw [hF]; kernel_rfl) | kernel_rfl⟩
noncomputable def r02_Parse_fact : Fact Tryd.prog := factOf 13 Tryd.f13 (by kernel_rfl) rfl (by kernel_rfl) [.c (.str)] [] false (fun t u => .tup [.vec 0, .int .i64 ((r02_ParseF t.1).1)]) (fun t u => [.vec true ⟨.term, (r02_ParseF t.1).2⟩]) (fun t u => [t.1.size ≤ 4294967280])
  (nofun) (fun t u => by kernel_rfl) (fun t u => by kernel_rfl) (fun t u h => r02_ParseF_tr t.1 (h _ List.mem_cons_self))
end Go.Proofs.YtbjlmmeabonbpaaDoor
