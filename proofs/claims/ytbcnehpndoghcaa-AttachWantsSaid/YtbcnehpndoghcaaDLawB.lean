/- Attach. -/
import Derived.Test.YtbcnehpndoghcaaDH5
set_option linter.unusedVariables false
set_option linter.unusedSimpArgs false
set_option maxRecDepth 100000
namespace Go.Proofs.Ytbcnehpndoghcaa
open Go Go.Eng
noncomputable def E_w13_AttachOne : Env := envOf (P := Try.prog) [w13_few_fact, attach_Volume_fact, w13_live_fact, attach_Attachments_fact] [] [] ckf
def w13_AttachOneLF (a2 : ByteArray) : List XObj → Bool → XObj → Bool × XObj
  | [], v2, v5 => (v2, v5)
  | o :: r, v2, v5 => cond (cond (cond (!v2) ((o.kind) == (4 : Int)) false) (decide ((o.name) = a2)) false)
    (w13_AttachOneLF a2 r true o)
    (w13_AttachOneLF a2 r v2 v5)
def w13_AttachOneLS (a0 : List XObj) (a1 : Int) (a2 : ByteArray) (v2 : Bool) (i : Nat) (v5 : XObj) : St :=
  ⟨slots 98 [(0, .coll ⟨.obj, w13_fewF a0⟩), (2, .str a2), (7, .ptr 0 0), (8, .ptr 1 0), (9, .bool v2), (10, .int .i64 (i : Int))], [.cells 42 (ac (attach_VolumeF (w13_fewF a0) a1 a2)), .cells 37 (oc v5)]⟩
def w13_AttachOneLR (a0 : List XObj) (a1 : Int) (a2 : ByteArray) (v2 : Bool) (i : Nat) (v5 : XObj) : RT :=
  (.ask (decide ((i : Int) < ((w13_fewF a0).length : Int)))
    (.need [((!v2) = true) → (0 ≤ (i : Int) ∧ (i : Int) < ((w13_fewF a0).length : Int))]
      (.need [((cond (!v2) ((((w13_fewF a0).getD i default).kind) == (4 : Int)) false) = true) → (0 ≤ (i : Int) ∧ (i : Int) < ((w13_fewF a0).length : Int))]
        (.ask (cond (cond (!v2) ((((w13_fewF a0).getD i default).kind) == (4 : Int)) false) (decide ((((w13_fewF a0).getD i default).name) = a2)) false)
          (.need [0 ≤ (i : Int) ∧ (i : Int) < ((w13_fewF a0).length : Int)]
            (.leaf .normal ⟨slots 98 [(0, .coll ⟨.obj, w13_fewF a0⟩), (2, .str a2), (7, .ptr 0 0), (8, .ptr 1 0), (9, .bool true), (10, .int .i64 (IntKind.i64.wrap ((i : Int) + (1 : Int))))], [.cells 42 (ac (attach_VolumeF (w13_fewF a0) a1 a2)), .cells 37 (oc ((w13_fewF a0).getD i default))]⟩ []))
          (.leaf .normal ⟨slots 98 [(0, .coll ⟨.obj, w13_fewF a0⟩), (2, .str a2), (7, .ptr 0 0), (8, .ptr 1 0), (9, .bool v2), (10, .int .i64 (IntKind.i64.wrap ((i : Int) + (1 : Int))))], [.cells 42 (ac (attach_VolumeF (w13_fewF a0) a1 a2)), .cells 37 (oc v5)]⟩ []))))
    (.leaf (.exit 0) ⟨slots 98 [(0, .coll ⟨.obj, w13_fewF a0⟩), (2, .str a2), (7, .ptr 0 0), (8, .ptr 1 0), (9, .bool v2)], [.cells 42 (ac (attach_VolumeF (w13_fewF a0) a1 a2)), .cells 37 (oc v5)]⟩ []))
def w13_AttachOneLT (a0 : List XObj) (a1 : Int) (a2 : ByteArray) (v2 : Bool) (i : Nat) (v5 : XObj) : Tree :=
  .leaf (.exit 0) ⟨slots 98 [(0, .coll ⟨.obj, w13_fewF a0⟩), (2, .str a2), (7, .ptr 0 0), (8, .ptr 1 0), (9, .bool ((w13_AttachOneLF a2 ((w13_fewF a0).drop i) v2 v5).1))], [.cells 42 (ac (attach_VolumeF (w13_fewF a0) a1 a2)), .cells 37 (oc ((w13_AttachOneLF a2 ((w13_fewF a0).drop i) v2 v5).2))]⟩
theorem w13_AttachOneL_loop (a0 : List XObj) (a1 : Int) (a2 : ByteArray) (hp0 : ∀ o ∈ a0, o.Fine) (hp1 : a2.size ≤ 140737488351232) (hlen : (w13_fewF a0).length < 4611686018427387904) (z : { z : Bool × Nat × XObj // z.2.1 ≤ (w13_fewF a0).length }) (Q : Exit → St → Prop) (h : (w13_AttachOneLT a0 a1 a2 z.1.1 z.1.2.1 z.1.2.2).All Q) : Tr Try.prog 0 (.loop (loopAt Try.f5 0)) (w13_AttachOneLS a0 a1 a2 z.1.1 z.1.2.1 z.1.2.2) Q := by
  refine Tr_loopT (kok _ _ _ _ _ _) (E := E_w13_AttachOne) (ι := { z : Bool × Nat × XObj // z.2.1 ≤ (w13_fewF a0).length }) 60 0 (fun _ => noLoops) (fun z => w13_AttachOneLS a0 a1 a2 z.1.1 z.1.2.1 z.1.2.2) (fun z => w13_AttachOneLT a0 a1 a2 z.1.1 z.1.2.1 z.1.2.2) (fun z => w13_AttachOneLR a0 a1 a2 z.1.1 z.1.2.1 z.1.2.2) (fun z => (w13_fewF a0).length - z.1.2.1) (fun _ => LoopsOk.none) (fun z => by obtain ⟨⟨v2, i, v5⟩, hi⟩ := z; kernel_rfl) (fun z => by obtain ⟨⟨v2, i, v5⟩, hi⟩ := z; kernel_rfl) (fun z => by obtain ⟨⟨v2, i, v5⟩, hi⟩ := z; kernel_rfl) ?_ z Q h
  rintro ⟨⟨v2, i, v5⟩, hi⟩ Q hT
  replace hT : (w13_AttachOneLT a0 a1 a2 v2 i v5).All Q := hT
  replace hi : i ≤ (w13_fewF a0).length := hi
  show (w13_AttachOneLR a0 a1 a2 v2 i v5).All _
  unfold w13_AttachOneLR
  refine ⟨fun h0 => ?_, fun h0 => ?_⟩
  · have hlt : i < (w13_fewF a0).length := by simpa using h0
    have hd := drop_getD hlt
    have hw := wrap_succ (i := i) (by omega)
    refine ⟨need_cons (by (try refine fun (_ : _ = _) => ?_); first | assumption | omega | decide | exact Nat.le_trans (w13_few_len _) (by decide) | exact Nat.lt_of_le_of_lt (w13_few_len _) (by decide) | (have h9 := Attachments_len (w13_fewF a0) a2; have h8 := w13_few_len a0; omega) | (have h9 := Wanted_len (w13_fewF a0) a2; have h8 := w13_few_len a0; omega)) (need_nil), ?_⟩
    refine ⟨need_cons (by (try refine fun (_ : _ = _) => ?_); first | assumption | omega | decide | exact Nat.le_trans (w13_few_len _) (by decide) | exact Nat.lt_of_le_of_lt (w13_few_len _) (by decide) | (have h9 := Attachments_len (w13_fewF a0) a2; have h8 := w13_few_len a0; omega) | (have h9 := Wanted_len (w13_fewF a0) a2; have h8 := w13_few_len a0; omega)) (need_nil), ?_⟩
    refine ⟨fun h1 => ?_, fun h1 => ?_⟩
    · refine ⟨need_cons (by (try refine fun (_ : _ = _) => ?_); first | assumption | omega | decide | exact Nat.le_trans (w13_few_len _) (by decide) | exact Nat.lt_of_le_of_lt (w13_few_len _) (by decide) | (have h9 := Attachments_len (w13_fewF a0) a2; have h8 := w13_few_len a0; omega) | (have h9 := Wanted_len (w13_fewF a0) a2; have h8 := w13_few_len a0; omega)) (need_nil), ?_⟩
      have hF : w13_AttachOneLF a2 ((w13_fewF a0).drop i) v2 v5 = w13_AttachOneLF a2 ((w13_fewF a0).drop (i + 1)) true ((w13_fewF a0).getD i default) := by rw [hd]; first | exact (cond_t h1 rfl) | simp only [w13_AttachOneLF, h0, h1, cond_true, cond_false]
      refine ⟨⟨(true, (i + 1), ((w13_fewF a0).getD i default)), by show (i + 1) ≤ (w13_fewF a0).length; omega⟩, by show (w13_fewF a0).length - (i + 1) < (w13_fewF a0).length - i; omega, ?_, ?_⟩
      · show _ = w13_AttachOneLS a0 a1 a2 true (i + 1) ((w13_fewF a0).getD i default)
        unfold w13_AttachOneLS
        simp only [hw]
      · show (w13_AttachOneLT a0 a1 a2 true (i + 1) ((w13_fewF a0).getD i default)).All Q
        unfold w13_AttachOneLT at hT ⊢
        rw [hF] at hT
        exact hT
    · have hF : w13_AttachOneLF a2 ((w13_fewF a0).drop i) v2 v5 = w13_AttachOneLF a2 ((w13_fewF a0).drop (i + 1)) v2 v5 := by rw [hd]; first | exact (cond_f h1 rfl) | simp only [w13_AttachOneLF, h0, h1, cond_true, cond_false]
      refine ⟨⟨(v2, (i + 1), v5), by show (i + 1) ≤ (w13_fewF a0).length; omega⟩, by show (w13_fewF a0).length - (i + 1) < (w13_fewF a0).length - i; omega, ?_, ?_⟩
      · show _ = w13_AttachOneLS a0 a1 a2 v2 (i + 1) v5
        unfold w13_AttachOneLS
        simp only [hw]
      · show (w13_AttachOneLT a0 a1 a2 v2 (i + 1) v5).All Q
        unfold w13_AttachOneLT at hT ⊢
        rw [hF] at hT
        exact hT
  · have hge : ¬ i < (w13_fewF a0).length := by simpa using h0
    have hd : (w13_fewF a0).drop i = [] := List.drop_eq_nil_of_le (by omega)
    have hF : w13_AttachOneLF a2 ((w13_fewF a0).drop i) v2 v5 = (v2, v5) := by rw [hd]; first | exact rfl | simp only [w13_AttachOneLF, h0, cond_true, cond_false]
    unfold w13_AttachOneLT at hT
    rw [hF] at hT
    exact hT
def w13_AttachOneL1F (a0 : List XObj) (a1 : Int) (a2 : ByteArray) : List XObj → Bool → Bool
  | [], v1_1 => v1_1
  | o1 :: r, v1_1 => w13_AttachOneL1F a0 a1 a2 r (cond v1_1 (!(decide ((o1.name) = ((attach_VolumeF (w13_fewF a0) a1 a2).obj.name)))) false)
def w13_AttachOneL1S (a0 : List XObj) (a1 : Int) (a2 : ByteArray) (v1_1 : Bool) (i1 : Nat) : St :=
  ⟨slots 98 [(7, .ptr 0 0), (8, .ptr 1 0), (9, .bool ((w13_AttachOneLF a2 (w13_fewF a0) false (default : XObj)).1)), (11, .vec 2), (12, .bool v1_1), (13, .int .i64 (i1 : Int))], [.cells 42 (ac (attach_VolumeF (w13_fewF a0) a1 a2)), .cells 37 (oc ((w13_AttachOneLF a2 (w13_fewF a0) false (default : XObj)).2)), .vec false ⟨.obj, attach_AttachmentsF (w13_fewF a0) a2⟩]⟩
def w13_AttachOneL1R (a0 : List XObj) (a1 : Int) (a2 : ByteArray) (v1_1 : Bool) (i1 : Nat) : RT :=
  (.ask (decide ((i1 : Int) < ((attach_AttachmentsF (w13_fewF a0) a2).length : Int)))
    (.need [(v1_1 = true) → (0 ≤ (i1 : Int) ∧ (i1 : Int) < ((attach_AttachmentsF (w13_fewF a0) a2).length : Int))]
      (.leaf .normal ⟨slots 98 [(7, .ptr 0 0), (8, .ptr 1 0), (9, .bool ((w13_AttachOneLF a2 (w13_fewF a0) false (default : XObj)).1)), (11, .vec 2), (12, .bool (cond v1_1 (!(decide ((((attach_AttachmentsF (w13_fewF a0) a2).getD i1 default).name) = ((attach_VolumeF (w13_fewF a0) a1 a2).obj.name)))) false)), (13, .int .i64 (IntKind.i64.wrap ((i1 : Int) + (1 : Int))))], [.cells 42 (ac (attach_VolumeF (w13_fewF a0) a1 a2)), .cells 37 (oc ((w13_AttachOneLF a2 (w13_fewF a0) false (default : XObj)).2)), .vec false ⟨.obj, attach_AttachmentsF (w13_fewF a0) a2⟩]⟩ []))
    (.leaf (.exit 2) ⟨slots 98 [(8, .ptr 0 0), (9, .bool ((w13_AttachOneLF a2 (w13_fewF a0) false (default : XObj)).1)), (11, .vec 1), (12, .bool v1_1)], [.cells 37 (oc ((w13_AttachOneLF a2 (w13_fewF a0) false (default : XObj)).2)), .vec false ⟨.obj, attach_AttachmentsF (w13_fewF a0) a2⟩]⟩ [1, 2]))
def w13_AttachOneL1T (a0 : List XObj) (a1 : Int) (a2 : ByteArray) (v1_1 : Bool) (i1 : Nat) : Tree :=
  .leaf (.exit 2) ⟨slots 98 [(8, .ptr 0 0), (9, .bool ((w13_AttachOneLF a2 (w13_fewF a0) false (default : XObj)).1)), (11, .vec 1), (12, .bool (w13_AttachOneL1F a0 a1 a2 ((attach_AttachmentsF (w13_fewF a0) a2).drop i1) v1_1))], [.cells 37 (oc ((w13_AttachOneLF a2 (w13_fewF a0) false (default : XObj)).2)), .vec false ⟨.obj, attach_AttachmentsF (w13_fewF a0) a2⟩]⟩
theorem w13_AttachOneL1_loop (a0 : List XObj) (a1 : Int) (a2 : ByteArray) (hp0 : ∀ o ∈ a0, o.Fine) (hp1 : a2.size ≤ 140737488351232) (hlen : (attach_AttachmentsF (w13_fewF a0) a2).length < 4611686018427387904) (z : { z : Bool × Nat // z.2 ≤ (attach_AttachmentsF (w13_fewF a0) a2).length }) (Q : Exit → St → Prop) (h : (w13_AttachOneL1T a0 a1 a2 z.1.1 z.1.2).All Q) : Tr Try.prog 0 (.loop (loopAt Try.f5 1)) (w13_AttachOneL1S a0 a1 a2 z.1.1 z.1.2) Q := by
  refine Tr_loopT (kok _ _ _ _ _ _) (E := E_w13_AttachOne) (ι := { z : Bool × Nat // z.2 ≤ (attach_AttachmentsF (w13_fewF a0) a2).length }) 60 2 (fun _ => noLoops) (fun z => w13_AttachOneL1S a0 a1 a2 z.1.1 z.1.2) (fun z => w13_AttachOneL1T a0 a1 a2 z.1.1 z.1.2) (fun z => w13_AttachOneL1R a0 a1 a2 z.1.1 z.1.2) (fun z => (attach_AttachmentsF (w13_fewF a0) a2).length - z.1.2) (fun _ => LoopsOk.none) (fun z => by obtain ⟨⟨v1_1, i1⟩, hi⟩ := z; kernel_rfl) (fun z => by obtain ⟨⟨v1_1, i1⟩, hi⟩ := z; kernel_rfl) (fun z => by obtain ⟨⟨v1_1, i1⟩, hi⟩ := z; kernel_rfl) ?_ z Q h
  rintro ⟨⟨v1_1, i1⟩, hi⟩ Q hT
  replace hT : (w13_AttachOneL1T a0 a1 a2 v1_1 i1).All Q := hT
  replace hi : i1 ≤ (attach_AttachmentsF (w13_fewF a0) a2).length := hi
  show (w13_AttachOneL1R a0 a1 a2 v1_1 i1).All _
  unfold w13_AttachOneL1R
  refine ⟨fun h0 => ?_, fun h0 => ?_⟩
  · have hlt : i1 < (attach_AttachmentsF (w13_fewF a0) a2).length := by simpa using h0
    have hd := drop_getD hlt
    have hw := wrap_succ (i := i1) (by omega)
    refine ⟨need_cons (by (try refine fun (_ : _ = _) => ?_); first | assumption | omega | decide | exact Nat.le_trans (w13_few_len _) (by decide) | exact Nat.lt_of_le_of_lt (w13_few_len _) (by decide) | (have h9 := Attachments_len (w13_fewF a0) a2; have h8 := w13_few_len a0; omega) | (have h9 := Wanted_len (w13_fewF a0) a2; have h8 := w13_few_len a0; omega)) (need_nil), ?_⟩
    have hF : w13_AttachOneL1F a0 a1 a2 ((attach_AttachmentsF (w13_fewF a0) a2).drop i1) v1_1 = w13_AttachOneL1F a0 a1 a2 ((attach_AttachmentsF (w13_fewF a0) a2).drop (i1 + 1)) (cond v1_1 (!(decide ((((attach_AttachmentsF (w13_fewF a0) a2).getD i1 default).name) = ((attach_VolumeF (w13_fewF a0) a1 a2).obj.name)))) false) := by rw [hd]; first | exact rfl | simp only [w13_AttachOneL1F, h0, cond_true, cond_false]
    refine ⟨⟨(cond v1_1 (!(decide ((((attach_AttachmentsF (w13_fewF a0) a2).getD i1 default).name) = ((attach_VolumeF (w13_fewF a0) a1 a2).obj.name)))) false, (i1 + 1)), by show (i1 + 1) ≤ (attach_AttachmentsF (w13_fewF a0) a2).length; omega⟩, by show (attach_AttachmentsF (w13_fewF a0) a2).length - (i1 + 1) < (attach_AttachmentsF (w13_fewF a0) a2).length - i1; omega, ?_, ?_⟩
    · show _ = w13_AttachOneL1S a0 a1 a2 (cond v1_1 (!(decide ((((attach_AttachmentsF (w13_fewF a0) a2).getD i1 default).name) = ((attach_VolumeF (w13_fewF a0) a1 a2).obj.name)))) false) (i1 + 1)
      unfold w13_AttachOneL1S
      simp only [hw]
    · show (w13_AttachOneL1T a0 a1 a2 (cond v1_1 (!(decide ((((attach_AttachmentsF (w13_fewF a0) a2).getD i1 default).name) = ((attach_VolumeF (w13_fewF a0) a1 a2).obj.name)))) false) (i1 + 1)).All Q
      unfold w13_AttachOneL1T at hT ⊢
      rw [hF] at hT
      exact hT
  · have hge : ¬ i1 < (attach_AttachmentsF (w13_fewF a0) a2).length := by simpa using h0
    have hd : (attach_AttachmentsF (w13_fewF a0) a2).drop i1 = [] := List.drop_eq_nil_of_le (by omega)
    have hF : w13_AttachOneL1F a0 a1 a2 ((attach_AttachmentsF (w13_fewF a0) a2).drop i1) v1_1 = v1_1 := by rw [hd]; first | exact rfl | simp only [w13_AttachOneL1F, h0, cond_true, cond_false]
    unfold w13_AttachOneL1T at hT
    rw [hF] at hT
    exact hT
def w13_AttachOneF (a0 : List XObj) (a1 : Int) (a2 : ByteArray) : Bool :=
  cond (cond (!(((attach_VolumeF (w13_fewF a0) a1 a2).act) == (1 : Int))) true (!(((attach_VolumeF (w13_fewF a0) a1 a2).obj.version) == (0 : Int))))
    w13_liveF
    (cond (cond w13_liveF ((w13_AttachOneLF a2 (w13_fewF a0) false (default : XObj)).1) false) (cond (cond (!(w13_AttachOneL1F a0 a1 a2 (attach_AttachmentsF (w13_fewF a0) a2) true)) true (!((((w13_AttachOneLF a2 (w13_fewF a0) false (default : XObj)).2).mode) == (1 : Int)))) true (((attach_AttachmentsF (w13_fewF a0) a2).length : Int) == (0 : Int))) false)
def w13_AttachOneR (a0 : List XObj) (a1 : Int) (a2 : ByteArray) : RT :=
  (.need [(w13_fewF a0).length ≤ 64, ∀ o ∈ (w13_fewF a0), o.Fine, a2.size ≤ 140737488351232]
    (.ask (cond (!(((attach_VolumeF (w13_fewF a0) a1 a2).act) == (1 : Int))) true (!(((attach_VolumeF (w13_fewF a0) a1 a2).obj.version) == (0 : Int))))
      (.leaf .ret ⟨slots 98 [(6, .bool w13_liveF)], []⟩ [])
      (.need [(w13_fewF a0).length ≤ 64]
        (.leaf .ret ⟨slots 98 [(6, .bool (cond (cond w13_liveF ((w13_AttachOneLF a2 (w13_fewF a0) false (default : XObj)).1) false) (cond (cond (!(w13_AttachOneL1F a0 a1 a2 (attach_AttachmentsF (w13_fewF a0) a2) true)) true (!((((w13_AttachOneLF a2 (w13_fewF a0) false (default : XObj)).2).mode) == (1 : Int)))) true (((attach_AttachmentsF (w13_fewF a0) a2).length : Int) == (0 : Int))) false))], []⟩ []))))
theorem w13_AttachOneF_tr (a0 : List XObj) (a1 : Int) (a2 : ByteArray) (hp0 : ∀ o ∈ a0, o.Fine) (hp1 : a2.size ≤ 140737488351232) : Tr Try.prog 0 (bodyOf Try.f5) (fnBegins Try.f5 [.coll ⟨.obj, a0⟩, .int .u64 a1, .str a2] []) (fnEnds Try.prog Try.f5 (.bool (w13_AttachOneF a0 a1 a2)) []) := by
  refine Tr_tree (kok _ _ _ _ _ _) (E := E_w13_AttachOne) (L := (loopsOf [(0, w13_AttachOneLS a0 a1 a2 false 0 (default : XObj), [], w13_AttachOneLT a0 a1 a2 false 0 (default : XObj)), (2, w13_AttachOneL1S a0 a1 a2 true 0, [], w13_AttachOneL1T a0 a1 a2 true 0)])) 60 9999 (LoopsOk.two (g := loopAt Try.f5 0) (g2 := loopAt Try.f5 1) (b := 0) (b2 := 2) (by kernel_rfl) (by kernel_rfl) (by kernel_rfl) (by kernel_rfl) (by kernel_rfl) (fun Q h => w13_AttachOneL_loop a0 a1 a2 hp0 hp1 (by first | assumption | omega | decide | exact Nat.le_trans (w13_few_len _) (by decide) | exact Nat.lt_of_le_of_lt (w13_few_len _) (by decide) | (have h9 := Attachments_len (w13_fewF a0) a2; have h8 := w13_few_len a0; omega) | (have h9 := Wanted_len (w13_fewF a0) a2; have h8 := w13_few_len a0; omega)) ⟨(false, 0, (default : XObj)), Nat.zero_le _⟩ Q h) (by kernel_rfl) (by kernel_rfl) (by kernel_rfl) (fun Q h => w13_AttachOneL1_loop a0 a1 a2 hp0 hp1 (by first | assumption | omega | decide | exact Nat.le_trans (w13_few_len _) (by decide) | exact Nat.lt_of_le_of_lt (w13_few_len _) (by decide) | (have h9 := Attachments_len (w13_fewF a0) a2; have h8 := w13_few_len a0; omega) | (have h9 := Wanted_len (w13_fewF a0) a2; have h8 := w13_few_len a0; omega)) ⟨(true, 0), Nat.zero_le _⟩ Q h)) (w13_AttachOneR a0 a1 a2) (by kernel_rfl) (by kernel_rfl) (by kernel_rfl) ?_
  unfold w13_AttachOneR
  refine ⟨need_cons (by (try refine fun (_ : _ = _) => ?_); first | assumption | omega | decide | exact Nat.le_trans (w13_few_len _) (by decide) | exact Nat.lt_of_le_of_lt (w13_few_len _) (by decide) | (have h9 := Attachments_len (w13_fewF a0) a2; have h8 := w13_few_len a0; omega) | (have h9 := Wanted_len (w13_fewF a0) a2; have h8 := w13_few_len a0; omega)) (need_cons (by (try refine fun (_ : _ = _) => ?_); first | assumption | (simp only [List.mem_cons, List.not_mem_nil, or_false, forall_eq_or_imp, forall_eq, XObj.Fine, size_mk]; decide) | exact w13_few_fine (by assumption)) (need_cons (by (try refine fun (_ : _ = _) => ?_); first | assumption | decide | omega) (need_nil))), ?_⟩
  refine ⟨fun h0 => ?_, fun h0 => ?_⟩
  · have hF : w13_AttachOneF a0 a1 a2 = w13_liveF := by first | exact (cond_t h0 rfl) | simp only [w13_AttachOneF, h0, cond_true, cond_false]
    exact ⟨trivial, .inl (by first | (rw [hF]; kernel_rfl) | kernel_rfl), by first | (rw [hF]; kernel_rfl) | kernel_rfl⟩
  · refine ⟨need_cons (by (try refine fun (_ : _ = _) => ?_); first | assumption | omega | decide | exact Nat.le_trans (w13_few_len _) (by decide) | exact Nat.lt_of_le_of_lt (w13_few_len _) (by decide) | (have h9 := Attachments_len (w13_fewF a0) a2; have h8 := w13_few_len a0; omega) | (have h9 := Wanted_len (w13_fewF a0) a2; have h8 := w13_few_len a0; omega)) (need_nil), ?_⟩
    have hF : w13_AttachOneF a0 a1 a2 = (cond (cond w13_liveF ((w13_AttachOneLF a2 (w13_fewF a0) false (default : XObj)).1) false) (cond (cond (!(w13_AttachOneL1F a0 a1 a2 (attach_AttachmentsF (w13_fewF a0) a2) true)) true (!((((w13_AttachOneLF a2 (w13_fewF a0) false (default : XObj)).2).mode) == (1 : Int)))) true (((attach_AttachmentsF (w13_fewF a0) a2).length : Int) == (0 : Int))) false) := by first | exact (cond_f h0 rfl) | simp only [w13_AttachOneF, h0, cond_true, cond_false]
    exact ⟨trivial, .inl (by first | (rw [hF]; kernel_rfl) | kernel_rfl), by first | (rw [hF]; kernel_rfl) | kernel_rfl⟩
end Go.Proofs.Ytbcnehpndoghcaa
