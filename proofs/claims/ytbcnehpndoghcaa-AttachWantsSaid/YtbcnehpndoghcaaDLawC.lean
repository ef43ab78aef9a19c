/- Attach. -/
import Derived.Test.YtbcnehpndoghcaaDH5
set_option linter.unusedVariables false
set_option linter.unusedSimpArgs false
set_option maxRecDepth 100000
namespace Go.Proofs.Ytbcnehpndoghcaa
open Go Go.Eng
noncomputable def E_w13_AttachWanted : Env := envOf (P := Try.prog) [w13_few_fact, attach_Volume_fact, w13_live_fact, attach_Wanted_fact] [] [] ckf
def w13_AttachWantedLF (a0 : List XObj) (a1 : Int) (a2 : ByteArray) : List ByteArray → Bool → Bool
  | [], v2 => v2
  | o :: r, v2 => w13_AttachWantedLF a0 a1 a2 r (cond v2 true (decide (o = ((attach_VolumeF (w13_fewF a0) a1 a2).obj.node))))
def w13_AttachWantedLS (a0 : List XObj) (a1 : Int) (a2 : ByteArray) (v2 : Bool) (i : Nat) : St :=
  ⟨slots 80 [(1, .int .u64 a1), (2, .str a2), (7, .ptr 0 0), (8, .bool v2), (9, .vec 1), (10, .int .i64 (i : Int))], [.cells 42 (ac (attach_VolumeF (w13_fewF a0) a1 a2)), .vec false ⟨.str, attach_WantedF (w13_fewF a0) a2⟩]⟩
def w13_AttachWantedLR (a0 : List XObj) (a1 : Int) (a2 : ByteArray) (v2 : Bool) (i : Nat) : RT :=
  (.ask (decide ((i : Int) < ((attach_WantedF (w13_fewF a0) a2).length : Int)))
    (.need [(v2 = false) → (0 ≤ (i : Int) ∧ (i : Int) < ((attach_WantedF (w13_fewF a0) a2).length : Int))]
      (.leaf .normal ⟨slots 80 [(1, .int .u64 a1), (2, .str a2), (7, .ptr 0 0), (8, .bool (cond v2 true (decide (((attach_WantedF (w13_fewF a0) a2).getD i default) = ((attach_VolumeF (w13_fewF a0) a1 a2).obj.node))))), (9, .vec 1), (10, .int .i64 (IntKind.i64.wrap ((i : Int) + (1 : Int))))], [.cells 42 (ac (attach_VolumeF (w13_fewF a0) a1 a2)), .vec false ⟨.str, attach_WantedF (w13_fewF a0) a2⟩]⟩ []))
    (.leaf (.exit 0) ⟨slots 80 [(1, .int .u64 a1), (2, .str a2), (7, .ptr 0 0), (8, .bool v2)], [.cells 42 (ac (attach_VolumeF (w13_fewF a0) a1 a2))]⟩ []))
def w13_AttachWantedLT (a0 : List XObj) (a1 : Int) (a2 : ByteArray) (v2 : Bool) (i : Nat) : Tree :=
  .leaf (.exit 0) ⟨slots 80 [(1, .int .u64 a1), (2, .str a2), (7, .ptr 0 0), (8, .bool (w13_AttachWantedLF a0 a1 a2 ((attach_WantedF (w13_fewF a0) a2).drop i) v2))], [.cells 42 (ac (attach_VolumeF (w13_fewF a0) a1 a2))]⟩
theorem w13_AttachWantedL_loop (a0 : List XObj) (a1 : Int) (a2 : ByteArray) (hp0 : ∀ o ∈ a0, o.Fine) (hp1 : a2.size ≤ 140737488351232) (hlen : (attach_WantedF (w13_fewF a0) a2).length < 4611686018427387904) (z : { z : Bool × Nat // z.2 ≤ (attach_WantedF (w13_fewF a0) a2).length }) (Q : Exit → St → Prop) (h : (w13_AttachWantedLT a0 a1 a2 z.1.1 z.1.2).All Q) : Tr Try.prog 0 (.loop (loopAt Try.f6 0)) (w13_AttachWantedLS a0 a1 a2 z.1.1 z.1.2) Q := by
  refine Tr_loopT (kok _ _ _ _ _ _) (E := E_w13_AttachWanted) (ι := { z : Bool × Nat // z.2 ≤ (attach_WantedF (w13_fewF a0) a2).length }) 60 0 (fun _ => noLoops) (fun z => w13_AttachWantedLS a0 a1 a2 z.1.1 z.1.2) (fun z => w13_AttachWantedLT a0 a1 a2 z.1.1 z.1.2) (fun z => w13_AttachWantedLR a0 a1 a2 z.1.1 z.1.2) (fun z => (attach_WantedF (w13_fewF a0) a2).length - z.1.2) (fun _ => LoopsOk.none) (fun z => by obtain ⟨⟨v2, i⟩, hi⟩ := z; kernel_rfl) (fun z => by obtain ⟨⟨v2, i⟩, hi⟩ := z; kernel_rfl) (fun z => by obtain ⟨⟨v2, i⟩, hi⟩ := z; kernel_rfl) ?_ z Q h
  rintro ⟨⟨v2, i⟩, hi⟩ Q hT
  replace hT : (w13_AttachWantedLT a0 a1 a2 v2 i).All Q := hT
  replace hi : i ≤ (attach_WantedF (w13_fewF a0) a2).length := hi
  show (w13_AttachWantedLR a0 a1 a2 v2 i).All _
  unfold w13_AttachWantedLR
  refine ⟨fun h0 => ?_, fun h0 => ?_⟩
  · have hlt : i < (attach_WantedF (w13_fewF a0) a2).length := by simpa using h0
    have hd := drop_getD hlt
    have hw := wrap_succ (i := i) (by omega)
    refine ⟨need_cons (by (try refine fun (_ : _ = _) => ?_); first | assumption | omega | decide | exact Nat.le_trans (w13_few_len _) (by decide) | exact Nat.lt_of_le_of_lt (w13_few_len _) (by decide) | (have h9 := Attachments_len (w13_fewF a0) a2; have h8 := w13_few_len a0; omega) | (have h9 := Wanted_len (w13_fewF a0) a2; have h8 := w13_few_len a0; omega)) (need_nil), ?_⟩
    have hF : w13_AttachWantedLF a0 a1 a2 ((attach_WantedF (w13_fewF a0) a2).drop i) v2 = w13_AttachWantedLF a0 a1 a2 ((attach_WantedF (w13_fewF a0) a2).drop (i + 1)) (cond v2 true (decide (((attach_WantedF (w13_fewF a0) a2).getD i default) = ((attach_VolumeF (w13_fewF a0) a1 a2).obj.node)))) := by rw [hd]; first | exact rfl | simp only [w13_AttachWantedLF, h0, cond_true, cond_false]
    refine ⟨⟨(cond v2 true (decide (((attach_WantedF (w13_fewF a0) a2).getD i default) = ((attach_VolumeF (w13_fewF a0) a1 a2).obj.node))), (i + 1)), by show (i + 1) ≤ (attach_WantedF (w13_fewF a0) a2).length; omega⟩, by show (attach_WantedF (w13_fewF a0) a2).length - (i + 1) < (attach_WantedF (w13_fewF a0) a2).length - i; omega, ?_, ?_⟩
    · show _ = w13_AttachWantedLS a0 a1 a2 (cond v2 true (decide (((attach_WantedF (w13_fewF a0) a2).getD i default) = ((attach_VolumeF (w13_fewF a0) a1 a2).obj.node)))) (i + 1)
      unfold w13_AttachWantedLS
      simp only [hw]
    · show (w13_AttachWantedLT a0 a1 a2 (cond v2 true (decide (((attach_WantedF (w13_fewF a0) a2).getD i default) = ((attach_VolumeF (w13_fewF a0) a1 a2).obj.node)))) (i + 1)).All Q
      unfold w13_AttachWantedLT at hT ⊢
      rw [hF] at hT
      exact hT
  · have hge : ¬ i < (attach_WantedF (w13_fewF a0) a2).length := by simpa using h0
    have hd : (attach_WantedF (w13_fewF a0) a2).drop i = [] := List.drop_eq_nil_of_le (by omega)
    have hF : w13_AttachWantedLF a0 a1 a2 ((attach_WantedF (w13_fewF a0) a2).drop i) v2 = v2 := by rw [hd]; first | exact rfl | simp only [w13_AttachWantedLF, h0, cond_true, cond_false]
    unfold w13_AttachWantedLT at hT
    rw [hF] at hT
    exact hT
def w13_AttachWantedF (a0 : List XObj) (a1 : Int) (a2 : ByteArray) : Bool :=
  cond (!(((attach_VolumeF (w13_fewF a0) a1 a2).act) == (1 : Int)))
    w13_liveF
    (cond (((attach_VolumeF (w13_fewF a0) a1 a2).obj.phase) == (7 : Int))
      (cond (cond (cond w13_liveF (w13_AttachWantedLF a0 a1 a2 (attach_WantedF (w13_fewF a0) a2) false) false) (decide (((attach_VolumeF (w13_fewF a0) a1 a2).obj.volume) = a2)) false) (((attach_VolumeF (w13_fewF a0) a1 a2).obj.num) == (IntKind.u64.wrap (a1 + (1 : Int)))) false)
      (cond (((attach_VolumeF (w13_fewF a0) a1 a2).obj.phase) == (9 : Int))
        (cond (cond w13_liveF (!(w13_AttachWantedLF a0 a1 a2 (attach_WantedF (w13_fewF a0) a2) false)) false) (((attach_VolumeF (w13_fewF a0) a1 a2).obj.num) == (IntKind.u64.wrap (a1 + (1 : Int)))) false)
        false))
def w13_AttachWantedR (a0 : List XObj) (a1 : Int) (a2 : ByteArray) : RT :=
  (.need [(w13_fewF a0).length ≤ 64, ∀ o ∈ (w13_fewF a0), o.Fine, a2.size ≤ 140737488351232]
    (.ask (!(((attach_VolumeF (w13_fewF a0) a1 a2).act) == (1 : Int)))
      (.leaf .ret ⟨slots 80 [(6, .bool w13_liveF)], []⟩ [])
      (.need [(w13_fewF a0).length ≤ 64]
        (.ask (((attach_VolumeF (w13_fewF a0) a1 a2).obj.phase) == (7 : Int))
          (.leaf .ret ⟨slots 80 [(6, .bool (cond (cond (cond w13_liveF (w13_AttachWantedLF a0 a1 a2 (attach_WantedF (w13_fewF a0) a2) false) false) (decide (((attach_VolumeF (w13_fewF a0) a1 a2).obj.volume) = a2)) false) (((attach_VolumeF (w13_fewF a0) a1 a2).obj.num) == (IntKind.u64.wrap (a1 + (1 : Int)))) false))], []⟩ [])
          (.ask (((attach_VolumeF (w13_fewF a0) a1 a2).obj.phase) == (9 : Int))
            (.leaf .ret ⟨slots 80 [(6, .bool (cond (cond w13_liveF (!(w13_AttachWantedLF a0 a1 a2 (attach_WantedF (w13_fewF a0) a2) false)) false) (((attach_VolumeF (w13_fewF a0) a1 a2).obj.num) == (IntKind.u64.wrap (a1 + (1 : Int)))) false))], []⟩ [])
            (.leaf .ret ⟨slots 80 [(6, .bool false)], []⟩ []))))))
theorem w13_AttachWantedF_tr (a0 : List XObj) (a1 : Int) (a2 : ByteArray) (hp0 : ∀ o ∈ a0, o.Fine) (hp1 : a2.size ≤ 140737488351232) : Tr Try.prog 0 (bodyOf Try.f6) (fnBegins Try.f6 [.coll ⟨.obj, a0⟩, .int .u64 a1, .str a2] []) (fnEnds Try.prog Try.f6 (.bool (w13_AttachWantedF a0 a1 a2)) []) := by
  refine Tr_tree (kok _ _ _ _ _ _) (E := E_w13_AttachWanted) (L := (loopsOf [(0, w13_AttachWantedLS a0 a1 a2 false 0, [], w13_AttachWantedLT a0 a1 a2 false 0)])) 60 9999 (LoopsOk.one (g := loopAt Try.f6 0) (b := 0) (by kernel_rfl) (by kernel_rfl) (by kernel_rfl) (by kernel_rfl) (fun Q h => w13_AttachWantedL_loop a0 a1 a2 hp0 hp1 (by first | assumption | omega | decide | exact Nat.le_trans (w13_few_len _) (by decide) | exact Nat.lt_of_le_of_lt (w13_few_len _) (by decide) | (have h9 := Attachments_len (w13_fewF a0) a2; have h8 := w13_few_len a0; omega) | (have h9 := Wanted_len (w13_fewF a0) a2; have h8 := w13_few_len a0; omega)) ⟨(false, 0), Nat.zero_le _⟩ Q h)) (w13_AttachWantedR a0 a1 a2) (by kernel_rfl) (by kernel_rfl) (by kernel_rfl) ?_
  unfold w13_AttachWantedR
  refine ⟨need_cons (by (try refine fun (_ : _ = _) => ?_); first | assumption | omega | decide | exact Nat.le_trans (w13_few_len _) (by decide) | exact Nat.lt_of_le_of_lt (w13_few_len _) (by decide) | (have h9 := Attachments_len (w13_fewF a0) a2; have h8 := w13_few_len a0; omega) | (have h9 := Wanted_len (w13_fewF a0) a2; have h8 := w13_few_len a0; omega)) (need_cons (by (try refine fun (_ : _ = _) => ?_); first | assumption | (simp only [List.mem_cons, List.not_mem_nil, or_false, forall_eq_or_imp, forall_eq, XObj.Fine, size_mk]; decide) | exact w13_few_fine (by assumption)) (need_cons (by (try refine fun (_ : _ = _) => ?_); first | assumption | decide | omega) (need_nil))), ?_⟩
  refine ⟨fun h0 => ?_, fun h0 => ?_⟩
  · have hF : w13_AttachWantedF a0 a1 a2 = w13_liveF := by first | exact (cond_t h0 rfl) | simp only [w13_AttachWantedF, h0, cond_true, cond_false]
    exact ⟨trivial, .inl (by first | (rw [hF]; kernel_rfl) | kernel_rfl), by first | (rw [hF]; kernel_rfl) | kernel_rfl⟩
  · refine ⟨need_cons (by (try refine fun (_ : _ = _) => ?_); first | assumption | omega | decide | exact Nat.le_trans (w13_few_len _) (by decide) | exact Nat.lt_of_le_of_lt (w13_few_len _) (by decide) | (have h9 := Attachments_len (w13_fewF a0) a2; have h8 := w13_few_len a0; omega) | (have h9 := Wanted_len (w13_fewF a0) a2; have h8 := w13_few_len a0; omega)) (need_nil), ?_⟩
    refine ⟨fun h1 => ?_, fun h1 => ?_⟩
    · have hF : w13_AttachWantedF a0 a1 a2 = (cond (cond (cond w13_liveF (w13_AttachWantedLF a0 a1 a2 (attach_WantedF (w13_fewF a0) a2) false) false) (decide (((attach_VolumeF (w13_fewF a0) a1 a2).obj.volume) = a2)) false) (((attach_VolumeF (w13_fewF a0) a1 a2).obj.num) == (IntKind.u64.wrap (a1 + (1 : Int)))) false) := by first | exact (cond_f h0 (cond_t h1 rfl)) | simp only [w13_AttachWantedF, h0, h1, cond_true, cond_false]
      exact ⟨trivial, .inl (by first | (rw [hF]; kernel_rfl) | kernel_rfl), by first | (rw [hF]; kernel_rfl) | kernel_rfl⟩
    · refine ⟨fun h2 => ?_, fun h2 => ?_⟩
      · have hF : w13_AttachWantedF a0 a1 a2 = (cond (cond w13_liveF (!(w13_AttachWantedLF a0 a1 a2 (attach_WantedF (w13_fewF a0) a2) false)) false) (((attach_VolumeF (w13_fewF a0) a1 a2).obj.num) == (IntKind.u64.wrap (a1 + (1 : Int)))) false) := by first | exact (cond_f h0 (cond_f h1 (cond_t h2 rfl))) | simp only [w13_AttachWantedF, h0, h1, h2, cond_true, cond_false]
        exact ⟨trivial, .inl (by first | (rw [hF]; kernel_rfl) | kernel_rfl), by first | (rw [hF]; kernel_rfl) | kernel_rfl⟩
      · have hF : w13_AttachWantedF a0 a1 a2 = false := by first | exact (cond_f h0 (cond_f h1 (cond_f h2 rfl))) | simp only [w13_AttachWantedF, h0, h1, h2, cond_true, cond_false]
        exact ⟨trivial, .inl (by first | (rw [hF]; kernel_rfl) | kernel_rfl), by first | (rw [hF]; kernel_rfl) | kernel_rfl⟩
end Go.Proofs.Ytbcnehpndoghcaa
