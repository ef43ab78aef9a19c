/- Attach: what is done behind a call. -/
import Derived.Test.YtbcnehpndoghcaaDH6
set_option linter.unusedVariables false
set_option linter.unusedSimpArgs false
set_option maxRecDepth 100000
namespace Go.Proofs.Ytbcnehpndoghcaa
open Go Go.Eng
noncomputable def E_attach_After_1 : Env := envOf (P := Try.prog) [] [] [] ckf
def attach_After_1F (a0 : XObj) (b0 : XCall) : Bool :=
  cond (decide (a0.node = b0.node)) (a0.num == b0.num) false
def attach_After_1R (a0 : XObj) (b0 : XCall) : RT :=
  (.leaf .ret ⟨slots 16 [(3, .bool (cond (decide (a0.node = b0.node)) (a0.num == b0.num) false))], [.cells 40 (cc b0)]⟩ [])
theorem attach_After_1F_tr (a0 : XObj) (b0 : XCall)  : Tr Try.prog 1 (bodyOf Try.f52) (fnBegins Try.f52 [.agg (oc a0), .ptr 0 0] [.cells 40 (cc b0)]) (fnEnds Try.prog Try.f52 (.bool (attach_After_1F a0 b0)) [.cells 40 (cc b0)]) := by
  refine Tr_tree (kok _ _ _ _ _ _) (E := E_attach_After_1) (L := noLoops) 60 9999 LoopsOk.none (attach_After_1R a0 b0) (by kernel_rfl) (by kernel_rfl) (by kernel_rfl) ?_
  unfold attach_After_1R
  exact ⟨trivial, .inl (by kernel_rfl), by kernel_rfl⟩
noncomputable def attach_After_1_fact : Fact Try.prog := factOf 52 Try.f52 (by kernel_rfl) rfl (by kernel_rfl) [.st .obj, .c (.ptr 0 0)] [.st 40 .call] true (fun t u => .bool (attach_After_1F t.1 u.1)) (fun t u => HPL.enc _ u) (fun t u => [])
  (fun _ _ _ => rfl) (fun t u => by kernel_rfl) (fun t u => by kernel_rfl) (fun t u h => attach_After_1F_tr t.1 u.1 )
noncomputable def E_api_Object_3 : Env := envOf (P := Try.prog) [attach_After_1_fact] [] [] ckf
def api_Object_3LF (b1 : XCall) : List XObj → Nat → Bool × Int
  | [], i => (false, default)
  | o :: r, i => cond (attach_After_1F o b1)
    (true, (i : Int))
    (api_Object_3LF b1 r (i + 1))
def api_Object_3LS (b0 : List XObj) (b1 : XCall) (i : Nat) : St :=
  ⟨slots 19 [(0, .vec 0), (1, .fn 52 [.ptr 1 0]), (7, .int .i64 (b0.length : Int)), (8, .int .i64 (i : Int))], [.vec false ⟨.obj, b0⟩, .cells 40 (cc b1)]⟩
def api_Object_3LR (b0 : List XObj) (b1 : XCall) (i : Nat) : RT :=
  (.ask (decide ((i : Int) < (b0.length : Int)))
    (.need [0 ≤ (i : Int) ∧ (i : Int) < (b0.length : Int)]
      (.ask (attach_After_1F (b0.getD i default) b1)
        (.leaf .ret ⟨slots 19 [(4, .int .i64 (i : Int))], [.vec false ⟨.obj, b0⟩, .cells 40 (cc b1)]⟩ [])
        (.leaf .normal ⟨slots 19 [(0, .vec 0), (1, .fn 52 [.ptr 1 0]), (7, .int .i64 (b0.length : Int)), (8, .int .i64 (IntKind.i64.wrap ((i : Int) + (1 : Int))))], [.vec false ⟨.obj, b0⟩, .cells 40 (cc b1)]⟩ [])))
    (.leaf (.exit 0) ⟨slots 19 [], [.vec false ⟨.obj, b0⟩, .cells 40 (cc b1)]⟩ []))
def api_Object_3LT (b0 : List XObj) (b1 : XCall) (i : Nat) : Tree :=
  .ask ((api_Object_3LF b1 (b0.drop i) i).1) (.leaf .ret ⟨slots 19 [(4, .int .i64 ((api_Object_3LF b1 (b0.drop i) i).2))], [.vec false ⟨.obj, b0⟩, .cells 40 (cc b1)]⟩) (.leaf (.exit 0) ⟨slots 19 [], [.vec false ⟨.obj, b0⟩, .cells 40 (cc b1)]⟩)
theorem api_Object_3L_loop (b0 : List XObj) (b1 : XCall) (hp0 : b0.length < 4611686018427387904) (hlen : b0.length < 4611686018427387904) (z : { z : Nat // z ≤ b0.length }) (Q : Exit → St → Prop) (h : (api_Object_3LT b0 b1 z.1).All Q) : Tr Try.prog 2 (.loop (loopAt Try.f51 0)) (api_Object_3LS b0 b1 z.1) Q := by
  refine Tr_loopT (kok _ _ _ _ _ _) (E := E_api_Object_3) (ι := { z : Nat // z ≤ b0.length }) 60 0 (fun _ => noLoops) (fun z => api_Object_3LS b0 b1 z.1) (fun z => api_Object_3LT b0 b1 z.1) (fun z => api_Object_3LR b0 b1 z.1) (fun z => b0.length - z.1) (fun _ => LoopsOk.none) (fun z => by obtain ⟨i, hi⟩ := z; kernel_rfl) (fun z => by obtain ⟨i, hi⟩ := z; kernel_rfl) (fun z => by obtain ⟨i, hi⟩ := z; kernel_rfl) ?_ z Q h
  rintro ⟨i, hi⟩ Q hT
  replace hT : (api_Object_3LT b0 b1 i).All Q := hT
  replace hi : i ≤ b0.length := hi
  show (api_Object_3LR b0 b1 i).All _
  unfold api_Object_3LR
  refine ⟨fun h0 => ?_, fun h0 => ?_⟩
  · have hlt : i < b0.length := by simpa using h0
    have hd := drop_getD hlt
    have hw := wrap_succ (i := i) (by omega)
    refine ⟨need_cons (by first | assumption | omega | (intro; omega) | (simp only [decide_eq_true_eq, decide_eq_false_iff_not, Bool.cond_false_right, Bool.cond_true_right, Bool.cond_true_left, Bool.cond_false_left, Bool.and_eq_true, Bool.or_eq_true, Bool.not_eq_true', bytesLim, maxLen, List.length_cons, List.length_nil, List.length_append, byteSize_lit] at *; omega) | (intro; simp only [decide_eq_true_eq, decide_eq_false_iff_not, Bool.cond_false_right, Bool.cond_true_right, Bool.cond_true_left, Bool.cond_false_left, Bool.and_eq_true, Bool.or_eq_true, Bool.not_eq_true', bytesLim, maxLen, List.length_cons, List.length_nil, List.length_append, byteSize_lit] at *; omega)) (need_nil), ?_⟩
    refine ⟨fun h1 => ?_, fun h1 => ?_⟩
    · have hF : api_Object_3LF b1 (b0.drop i) i = (true, (i : Int)) := by rw [hd]; first | exact (cond_t h1 rfl) | simp only [api_Object_3LF, h0, h1, cond_true, cond_false]
      unfold api_Object_3LT at hT
      rw [hF] at hT
      exact hT.1 rfl
    · have hF : api_Object_3LF b1 (b0.drop i) i = api_Object_3LF b1 (b0.drop (i + 1)) (i + 1) := by rw [hd]; first | exact (cond_f h1 rfl) | simp only [api_Object_3LF, h0, h1, cond_true, cond_false]
      refine ⟨⟨(i + 1), by show (i + 1) ≤ b0.length; omega⟩, by show b0.length - (i + 1) < b0.length - i; omega, ?_, ?_⟩
      · show _ = api_Object_3LS b0 b1 (i + 1)
        unfold api_Object_3LS
        simp only [hw]
      · show (api_Object_3LT b0 b1 (i + 1)).All Q
        unfold api_Object_3LT at hT ⊢
        rw [hF] at hT
        exact hT
  · have hge : ¬ i < b0.length := by simpa using h0
    have hd : b0.drop i = [] := List.drop_eq_nil_of_le (by omega)
    have hF : api_Object_3LF b1 (b0.drop i) i = (false, default) := by rw [hd]; first | exact rfl | simp only [api_Object_3LF, h0, cond_true, cond_false]
    unfold api_Object_3LT at hT
    rw [hF] at hT
    exact hT.2 rfl
def api_Object_3F (b0 : List XObj) (b1 : XCall) : Int :=
  cond ((api_Object_3LF b1 b0 0).1)
    ((api_Object_3LF b1 b0 0).2)
    (-1 : Int)
def api_Object_3R (b0 : List XObj) (b1 : XCall) : RT :=
  (.ask ((api_Object_3LF b1 b0 0).1)
    (.leaf .ret ⟨slots 19 [(4, .int .i64 ((api_Object_3LF b1 b0 0).2))], [.vec false ⟨.obj, b0⟩, .cells 40 (cc b1)]⟩ [])
    (.leaf .ret ⟨slots 19 [(4, .int .i64 (-1))], [.vec false ⟨.obj, b0⟩, .cells 40 (cc b1)]⟩ []))
theorem api_Object_3F_tr (b0 : List XObj) (b1 : XCall) (hp0 : b0.length < 4611686018427387904) : Tr Try.prog 2 (bodyOf Try.f51) (fnBegins Try.f51 [.vec 0, .fn 52 [.ptr 1 0]] [.vec false ⟨.obj, b0⟩, .cells 40 (cc b1)]) (fnEnds Try.prog Try.f51 (.int .i64 (api_Object_3F b0 b1)) [.vec false ⟨.obj, b0⟩, .cells 40 (cc b1)]) := by
  refine Tr_tree (kok _ _ _ _ _ _) (E := E_api_Object_3) (L := (loopsOf [(0, api_Object_3LS b0 b1 0, [], api_Object_3LT b0 b1 0)])) 60 9999 (LoopsOk.one (g := loopAt Try.f51 0) (b := 0) (by kernel_rfl) (by kernel_rfl) (by kernel_rfl) (by kernel_rfl) (fun Q h => api_Object_3L_loop b0 b1 hp0 (by first | assumption | omega | (simp only [List.length_cons, List.length_nil, List.length_append]; omega)) ⟨0, by first | exact Nat.zero_le _ | (show 0 ≤ b0.length; omega) | (show 0 ≤ b0.length; exact ⟨Nat.zero_le _, by assumption⟩) | (show 0 ≤ b0.length; simp)⟩ Q h)) (api_Object_3R b0 b1) (by kernel_rfl) (by kernel_rfl) (by kernel_rfl) ?_
  unfold api_Object_3R
  refine ⟨fun h0 => ?_, fun h0 => ?_⟩
  · have hF : api_Object_3F b0 b1 = ((api_Object_3LF b1 b0 0).2) := by first | exact (cond_t h0 rfl) | simp only [api_Object_3F, h0, cond_true, cond_false]
    exact ⟨trivial, .inl (by first | (rw [hF]; kernel_rfl) | kernel_rfl), by first | (rw [hF]; kernel_rfl) | kernel_rfl⟩
  · have hF : api_Object_3F b0 b1 = (-1 : Int) := by first | exact (cond_f h0 rfl) | simp only [api_Object_3F, h0, cond_true, cond_false]
    exact ⟨trivial, .inl (by first | (rw [hF]; kernel_rfl) | kernel_rfl), by first | (rw [hF]; kernel_rfl) | kernel_rfl⟩
noncomputable def api_Object_3_fact : Fact Try.prog := factOf 51 Try.f51 (by kernel_rfl) rfl (by kernel_rfl) [.c (.vec 0), .fn 52 [.ptr 1 0]] [.vec false .obj, .st 40 .call] true (fun t u => .int .i64 (api_Object_3F u.1 u.2.1)) (fun t u => HPL.enc _ u) (fun t u => [u.1.length < 4611686018427387904])
  (fun _ _ _ => rfl) (fun t u => by kernel_rfl) (fun t u => by kernel_rfl) (fun t u h => api_Object_3F_tr u.1 u.2.1 (h _ List.mem_cons_self))
noncomputable def E_attach_After : Env := envOf (P := Try.prog) [attach_Volume_fact, attach_Attachments_fact, api_Object_3_fact, attach_write_fact] [] [] ckf
theorem api_Object_3L_in (c : XCall) : ∀ (l : List XObj) (i : Nat), (∃ o ∈ l, o.node = c.node ∧ o.num = c.num) → (api_Object_3LF c l i).1 = true ∧ (i : Int) ≤ (api_Object_3LF c l i).2 ∧ (api_Object_3LF c l i).2 < ((i + l.length : Nat) : Int)
  | [], i, h => by obtain ⟨o, h, _⟩ := h; cases h
  | o :: r, i, h => by
    unfold api_Object_3LF
    cases h1 : attach_After_1F o c with
    | true => exact ⟨rfl, Int.le_refl _, by show (i : Int) < _; rw [List.length_cons]; omega⟩
    | false =>
      rw [cond_false]
      have h2 : ∃ o ∈ r, o.node = c.node ∧ o.num = c.num := by
        obtain ⟨p, hp, e1, e2⟩ := h
        rcases List.mem_cons.1 hp with rfl | hp
        · unfold attach_After_1F at h1
          rw [e1, e2] at h1
          simp at h1
        · exact ⟨p, hp, e1, e2⟩
      obtain ⟨h3, h4, h5⟩ := api_Object_3L_in c r (i + 1) h2
      rw [List.length_cons]
      exact ⟨h3, by omega, by omega⟩
theorem after_in (a : List XObj) (v : Int) (c : XCall) (h : cond (!(((attach_VolumeF a v c.target).act) == (3 : Int))) true (!((((attach_VolumeF a v c.target).call.verb) == c.verb) && ((decide (((attach_VolumeF a v c.target).call.target) = c.target)) && ((((attach_VolumeF a v c.target).call.num) == c.num) && ((((attach_VolumeF a v c.target).call.size) == c.size) && ((decide (((attach_VolumeF a v c.target).call.zone) = c.zone)) && ((decide (((attach_VolumeF a v c.target).call.node) = c.node)) && (decide (((attach_VolumeF a v c.target).call.source) = c.source)))))))))  = false) : 0 ≤ api_Object_3F (attach_AttachmentsF a c.target) c ∧ api_Object_3F (attach_AttachmentsF a c.target) c < ((attach_AttachmentsF a c.target).length : Int) := by
  cases h1 : (attach_VolumeF a v c.target).act == (3 : Int) with
  | false => rw [h1] at h; cases h
  | true =>
    rw [h1] at h
    simp only [Bool.not_true, cond_false, Bool.not_eq_false', Bool.and_eq_true, beq_iff_eq, decide_eq_true_eq] at h
    obtain ⟨o, ho, e1, e2⟩ := ask_from a v c.target (by simpa using h1)
    obtain ⟨h3, h4, h5⟩ := api_Object_3L_in c (attach_AttachmentsF a c.target) 0 ⟨o, ho, e1.trans h.2.2.2.2.2.1, e2.trans h.2.2.1⟩
    unfold api_Object_3F
    rw [h3, cond_true]
    exact ⟨by omega, by rw [Nat.zero_add] at h5; exact h5⟩
def attach_AfterF (a0 : List XObj) (a1 : Int) (a2 : XCall) (a3 : XRes) : XAct :=
  cond (cond (!(((attach_VolumeF a0 a1 a2.target).act) == (3 : Int))) true (!((((attach_VolumeF a0 a1 a2.target).call.verb) == a2.verb) && ((decide (((attach_VolumeF a0 a1 a2.target).call.target) = a2.target)) && ((((attach_VolumeF a0 a1 a2.target).call.num) == a2.num) && ((((attach_VolumeF a0 a1 a2.target).call.size) == a2.size) && ((decide (((attach_VolumeF a0 a1 a2.target).call.zone) = a2.zone)) && ((decide (((attach_VolumeF a0 a1 a2.target).call.node) = a2.node)) && (decide (((attach_VolumeF a0 a1 a2.target).call.source) = a2.source))))))))))
    (default : XAct)
    (cond (a3.err == (9 : Int))
      (attach_writeF ((attach_AttachmentsF a0 a2.target).getD ((api_Object_3F (attach_AttachmentsF a0 a2.target) a2).toNat) default) (((attach_AttachmentsF a0 a2.target).getD ((api_Object_3F (attach_AttachmentsF a0 a2.target) a2).toNat) default).phase) a1)
      (cond (cond (a3.err == (5 : Int)) (a2.verb == (3 : Int)) false)
        (attach_writeF ((attach_AttachmentsF a0 a2.target).getD ((api_Object_3F (attach_AttachmentsF a0 a2.target) a2).toNat) default) (9 : Int) a1)
        (cond (cond (a3.err == (0 : Int)) (a2.verb == (3 : Int)) false)
          (⟨(1 : Int), ({ ((attach_AttachmentsF a0 a2.target).getD ((api_Object_3F (attach_AttachmentsF a0 a2.target) a2).toNat) default) with phase := (8 : Int), num := (0 : Int) } : XObj), (default : XCall)⟩ : XAct)
          (cond (a3.err == (0 : Int))
            (⟨(2 : Int), ((attach_AttachmentsF a0 a2.target).getD ((api_Object_3F (attach_AttachmentsF a0 a2.target) a2).toNat) default), (default : XCall)⟩ : XAct)
            (default : XAct)))))
def attach_AfterR (a0 : List XObj) (a1 : Int) (a2 : XCall) (a3 : XRes) : RT :=
  (.need [a0.length ≤ 64, ∀ o ∈ a0, o.Fine, a2.target.size ≤ 140737488351232]
    (.ask (cond (!(((attach_VolumeF a0 a1 a2.target).act) == (3 : Int))) true (!((((attach_VolumeF a0 a1 a2.target).call.verb) == a2.verb) && ((decide (((attach_VolumeF a0 a1 a2.target).call.target) = a2.target)) && ((((attach_VolumeF a0 a1 a2.target).call.num) == a2.num) && ((((attach_VolumeF a0 a1 a2.target).call.size) == a2.size) && ((decide (((attach_VolumeF a0 a1 a2.target).call.zone) = a2.zone)) && ((decide (((attach_VolumeF a0 a1 a2.target).call.node) = a2.node)) && (decide (((attach_VolumeF a0 a1 a2.target).call.source) = a2.source))))))))))
      (.leaf .ret ⟨slots 78 [(8, .ptr 0 0)], [.cells 42 [.int .u8 0, .int .u8 0, .str (⟨#[]⟩ : ByteArray), .int .u64 0, .int .u64 0, .bool false, .bool false, .str (⟨#[]⟩ : ByteArray), .int .i64 0, .int .i64 0, .int .u8 0, .bool false, .bool false, .str (⟨#[]⟩ : ByteArray), .str (⟨#[]⟩ : ByteArray), .str (⟨#[]⟩ : ByteArray), .str (⟨#[]⟩ : ByteArray), .str (⟨#[]⟩ : ByteArray), .int .u8 0, .int .u64 0, .int .u64 0, .int .u8 0, .str (⟨#[]⟩ : ByteArray), .int .u64 0, .int .i64 0, .str (⟨#[]⟩ : ByteArray), .str (⟨#[]⟩ : ByteArray), .str (⟨#[]⟩ : ByteArray)]]⟩ [2])
      (.need [a0.length ≤ 64]
        (.need [(attach_AttachmentsF a0 a2.target).length < 4611686018427387904]
          (.need [0 ≤ (api_Object_3F (attach_AttachmentsF a0 a2.target) a2) ∧ (api_Object_3F (attach_AttachmentsF a0 a2.target) a2) < ((attach_AttachmentsF a0 a2.target).length : Int)]
            (.ask (a3.err == (9 : Int))
              (.leaf .ret ⟨slots 78 [(8, .ptr 0 0)], [.cells 42 (ac (attach_writeF ((attach_AttachmentsF a0 a2.target).getD ((api_Object_3F (attach_AttachmentsF a0 a2.target) a2).toNat) default) (((attach_AttachmentsF a0 a2.target).getD ((api_Object_3F (attach_AttachmentsF a0 a2.target) a2).toNat) default).phase) a1))]⟩ [2])
              (.ask (cond (a3.err == (5 : Int)) (a2.verb == (3 : Int)) false)
                (.leaf .ret ⟨slots 78 [(8, .ptr 0 0)], [.cells 42 (ac (attach_writeF ((attach_AttachmentsF a0 a2.target).getD ((api_Object_3F (attach_AttachmentsF a0 a2.target) a2).toNat) default) (9 : Int) a1))]⟩ [2])
                (.ask (cond (a3.err == (0 : Int)) (a2.verb == (3 : Int)) false)
                  (.leaf .ret ⟨slots 78 [(8, .ptr 0 0)], [.cells 42 [.int .u8 1, .int .u8 (((attach_AttachmentsF a0 a2.target).getD ((api_Object_3F (attach_AttachmentsF a0 a2.target) a2).toNat) default).kind), .str (((attach_AttachmentsF a0 a2.target).getD ((api_Object_3F (attach_AttachmentsF a0 a2.target) a2).toNat) default).name), .int .u64 (((attach_AttachmentsF a0 a2.target).getD ((api_Object_3F (attach_AttachmentsF a0 a2.target) a2).toNat) default).version), .int .u64 (((attach_AttachmentsF a0 a2.target).getD ((api_Object_3F (attach_AttachmentsF a0 a2.target) a2).toNat) default).born), .bool (((attach_AttachmentsF a0 a2.target).getD ((api_Object_3F (attach_AttachmentsF a0 a2.target) a2).toNat) default).deleting), .bool (((attach_AttachmentsF a0 a2.target).getD ((api_Object_3F (attach_AttachmentsF a0 a2.target) a2).toNat) default).hold), .str (((attach_AttachmentsF a0 a2.target).getD ((api_Object_3F (attach_AttachmentsF a0 a2.target) a2).toNat) default).cls), .int .i64 (((attach_AttachmentsF a0 a2.target).getD ((api_Object_3F (attach_AttachmentsF a0 a2.target) a2).toNat) default).size), .int .i64 (((attach_AttachmentsF a0 a2.target).getD ((api_Object_3F (attach_AttachmentsF a0 a2.target) a2).toNat) default).got), .int .u8 (((attach_AttachmentsF a0 a2.target).getD ((api_Object_3F (attach_AttachmentsF a0 a2.target) a2).toNat) default).mode), .bool (((attach_AttachmentsF a0 a2.target).getD ((api_Object_3F (attach_AttachmentsF a0 a2.target) a2).toNat) default).keep), .bool (((attach_AttachmentsF a0 a2.target).getD ((api_Object_3F (attach_AttachmentsF a0 a2.target) a2).toNat) default).wait), .str (((attach_AttachmentsF a0 a2.target).getD ((api_Object_3F (attach_AttachmentsF a0 a2.target) a2).toNat) default).zone), .str (((attach_AttachmentsF a0 a2.target).getD ((api_Object_3F (attach_AttachmentsF a0 a2.target) a2).toNat) default).node), .str (((attach_AttachmentsF a0 a2.target).getD ((api_Object_3F (attach_AttachmentsF a0 a2.target) a2).toNat) default).claim), .str (((attach_AttachmentsF a0 a2.target).getD ((api_Object_3F (attach_AttachmentsF a0 a2.target) a2).toNat) default).volume), .str (((attach_AttachmentsF a0 a2.target).getD ((api_Object_3F (attach_AttachmentsF a0 a2.target) a2).toNat) default).source), .int .u8 8, .int .u64 0, .int .u64 (((attach_AttachmentsF a0 a2.target).getD ((api_Object_3F (attach_AttachmentsF a0 a2.target) a2).toNat) default).tag), .int .u8 0, .str (⟨#[]⟩ : ByteArray), .int .u64 0, .int .i64 0, .str (⟨#[]⟩ : ByteArray), .str (⟨#[]⟩ : ByteArray), .str (⟨#[]⟩ : ByteArray)]]⟩ [2])
                  (.ask (a3.err == (0 : Int))
                    (.leaf .ret ⟨slots 78 [(8, .ptr 0 0)], [.cells 42 [.int .u8 2, .int .u8 (((attach_AttachmentsF a0 a2.target).getD ((api_Object_3F (attach_AttachmentsF a0 a2.target) a2).toNat) default).kind), .str (((attach_AttachmentsF a0 a2.target).getD ((api_Object_3F (attach_AttachmentsF a0 a2.target) a2).toNat) default).name), .int .u64 (((attach_AttachmentsF a0 a2.target).getD ((api_Object_3F (attach_AttachmentsF a0 a2.target) a2).toNat) default).version), .int .u64 (((attach_AttachmentsF a0 a2.target).getD ((api_Object_3F (attach_AttachmentsF a0 a2.target) a2).toNat) default).born), .bool (((attach_AttachmentsF a0 a2.target).getD ((api_Object_3F (attach_AttachmentsF a0 a2.target) a2).toNat) default).deleting), .bool (((attach_AttachmentsF a0 a2.target).getD ((api_Object_3F (attach_AttachmentsF a0 a2.target) a2).toNat) default).hold), .str (((attach_AttachmentsF a0 a2.target).getD ((api_Object_3F (attach_AttachmentsF a0 a2.target) a2).toNat) default).cls), .int .i64 (((attach_AttachmentsF a0 a2.target).getD ((api_Object_3F (attach_AttachmentsF a0 a2.target) a2).toNat) default).size), .int .i64 (((attach_AttachmentsF a0 a2.target).getD ((api_Object_3F (attach_AttachmentsF a0 a2.target) a2).toNat) default).got), .int .u8 (((attach_AttachmentsF a0 a2.target).getD ((api_Object_3F (attach_AttachmentsF a0 a2.target) a2).toNat) default).mode), .bool (((attach_AttachmentsF a0 a2.target).getD ((api_Object_3F (attach_AttachmentsF a0 a2.target) a2).toNat) default).keep), .bool (((attach_AttachmentsF a0 a2.target).getD ((api_Object_3F (attach_AttachmentsF a0 a2.target) a2).toNat) default).wait), .str (((attach_AttachmentsF a0 a2.target).getD ((api_Object_3F (attach_AttachmentsF a0 a2.target) a2).toNat) default).zone), .str (((attach_AttachmentsF a0 a2.target).getD ((api_Object_3F (attach_AttachmentsF a0 a2.target) a2).toNat) default).node), .str (((attach_AttachmentsF a0 a2.target).getD ((api_Object_3F (attach_AttachmentsF a0 a2.target) a2).toNat) default).claim), .str (((attach_AttachmentsF a0 a2.target).getD ((api_Object_3F (attach_AttachmentsF a0 a2.target) a2).toNat) default).volume), .str (((attach_AttachmentsF a0 a2.target).getD ((api_Object_3F (attach_AttachmentsF a0 a2.target) a2).toNat) default).source), .int .u8 (((attach_AttachmentsF a0 a2.target).getD ((api_Object_3F (attach_AttachmentsF a0 a2.target) a2).toNat) default).phase), .int .u64 (((attach_AttachmentsF a0 a2.target).getD ((api_Object_3F (attach_AttachmentsF a0 a2.target) a2).toNat) default).num), .int .u64 (((attach_AttachmentsF a0 a2.target).getD ((api_Object_3F (attach_AttachmentsF a0 a2.target) a2).toNat) default).tag), .int .u8 0, .str (⟨#[]⟩ : ByteArray), .int .u64 0, .int .i64 0, .str (⟨#[]⟩ : ByteArray), .str (⟨#[]⟩ : ByteArray), .str (⟨#[]⟩ : ByteArray)]]⟩ [2])
                    (.leaf .ret ⟨slots 78 [(8, .ptr 0 0)], [.cells 42 [.int .u8 0, .int .u8 0, .str (⟨#[]⟩ : ByteArray), .int .u64 0, .int .u64 0, .bool false, .bool false, .str (⟨#[]⟩ : ByteArray), .int .i64 0, .int .i64 0, .int .u8 0, .bool false, .bool false, .str (⟨#[]⟩ : ByteArray), .str (⟨#[]⟩ : ByteArray), .str (⟨#[]⟩ : ByteArray), .str (⟨#[]⟩ : ByteArray), .str (⟨#[]⟩ : ByteArray), .int .u8 0, .int .u64 0, .int .u64 0, .int .u8 0, .str (⟨#[]⟩ : ByteArray), .int .u64 0, .int .i64 0, .str (⟨#[]⟩ : ByteArray), .str (⟨#[]⟩ : ByteArray), .str (⟨#[]⟩ : ByteArray)]]⟩ [2]))))))))))
theorem attach_AfterF_tr (a0 : List XObj) (a1 : Int) (a2 : XCall) (a3 : XRes) (hp0 : a0.length ≤ 64) (hp1 : ∀ o ∈ a0, o.Fine) (hp2 : a2.target.size ≤ 140737488351232) : Tr Try.prog 0 (bodyOf Try.f23) (fnBegins Try.f23 [.coll ⟨.obj, a0⟩, .int .u64 a1, .agg (cc a2), .agg [.int .i64 a3.err, .int .i64 a3.size, .str a3.zone, .int .u64 a3.tag]] []) (fnEnds Try.prog Try.f23 (.agg (ac (attach_AfterF a0 a1 a2 a3))) []) := by
  refine Tr_tree (kok _ _ _ _ _ _) (E := E_attach_After) (L := noLoops) 60 9999 LoopsOk.none (attach_AfterR a0 a1 a2 a3) (by kernel_rfl) (by kernel_rfl) (by kernel_rfl) ?_
  unfold attach_AfterR
  refine ⟨need_cons (by first | assumption | omega | (intro; omega) | (simp only [decide_eq_true_eq, decide_eq_false_iff_not, Bool.cond_false_right, Bool.cond_true_right, Bool.cond_true_left, Bool.cond_false_left, Bool.and_eq_true, Bool.or_eq_true, Bool.not_eq_true', bytesLim, maxLen, List.length_cons, List.length_nil, List.length_append, byteSize_lit] at *; omega) | (intro; simp only [decide_eq_true_eq, decide_eq_false_iff_not, Bool.cond_false_right, Bool.cond_true_right, Bool.cond_true_left, Bool.cond_false_left, Bool.and_eq_true, Bool.or_eq_true, Bool.not_eq_true', bytesLim, maxLen, List.length_cons, List.length_nil, List.length_append, byteSize_lit] at *; omega)) (need_cons (by first | assumption | omega | (intro; omega) | (simp only [decide_eq_true_eq, decide_eq_false_iff_not, Bool.cond_false_right, Bool.cond_true_right, Bool.cond_true_left, Bool.cond_false_left, Bool.and_eq_true, Bool.or_eq_true, Bool.not_eq_true', bytesLim, maxLen, List.length_cons, List.length_nil, List.length_append, byteSize_lit] at *; omega) | (intro; simp only [decide_eq_true_eq, decide_eq_false_iff_not, Bool.cond_false_right, Bool.cond_true_right, Bool.cond_true_left, Bool.cond_false_left, Bool.and_eq_true, Bool.or_eq_true, Bool.not_eq_true', bytesLim, maxLen, List.length_cons, List.length_nil, List.length_append, byteSize_lit] at *; omega)) (need_cons (by first | assumption | omega | (intro; omega) | (simp only [decide_eq_true_eq, decide_eq_false_iff_not, Bool.cond_false_right, Bool.cond_true_right, Bool.cond_true_left, Bool.cond_false_left, Bool.and_eq_true, Bool.or_eq_true, Bool.not_eq_true', bytesLim, maxLen, List.length_cons, List.length_nil, List.length_append, byteSize_lit] at *; omega) | (intro; simp only [decide_eq_true_eq, decide_eq_false_iff_not, Bool.cond_false_right, Bool.cond_true_right, Bool.cond_true_left, Bool.cond_false_left, Bool.and_eq_true, Bool.or_eq_true, Bool.not_eq_true', bytesLim, maxLen, List.length_cons, List.length_nil, List.length_append, byteSize_lit] at *; omega)) (need_nil))), ?_⟩
  refine ⟨fun h0 => ?_, fun h0 => ?_⟩
  · have hF : attach_AfterF a0 a1 a2 a3 = (default : XAct) := by first | exact (cond_t h0 rfl) | simp only [attach_AfterF, h0, cond_true, cond_false]
    exact ⟨trivial, .inl (by first | (rw [hF]; kernel_rfl) | kernel_rfl), by first | (rw [hF]; kernel_rfl) | kernel_rfl⟩
  · refine ⟨need_cons (by first | assumption | omega | (intro; omega) | (simp only [decide_eq_true_eq, decide_eq_false_iff_not, Bool.cond_false_right, Bool.cond_true_right, Bool.cond_true_left, Bool.cond_false_left, Bool.and_eq_true, Bool.or_eq_true, Bool.not_eq_true', bytesLim, maxLen, List.length_cons, List.length_nil, List.length_append, byteSize_lit] at *; omega) | (intro; simp only [decide_eq_true_eq, decide_eq_false_iff_not, Bool.cond_false_right, Bool.cond_true_right, Bool.cond_true_left, Bool.cond_false_left, Bool.and_eq_true, Bool.or_eq_true, Bool.not_eq_true', bytesLim, maxLen, List.length_cons, List.length_nil, List.length_append, byteSize_lit] at *; omega)) (need_nil), ?_⟩
    refine ⟨need_cons (by have h9 := Attachments_len a0 a2.target; omega) (need_nil), ?_⟩
    refine ⟨need_cons (by exact after_in a0 a1 a2 h0) (need_nil), ?_⟩
    refine ⟨fun h1 => ?_, fun h1 => ?_⟩
    · have hF : attach_AfterF a0 a1 a2 a3 = (attach_writeF ((attach_AttachmentsF a0 a2.target).getD ((api_Object_3F (attach_AttachmentsF a0 a2.target) a2).toNat) default) (((attach_AttachmentsF a0 a2.target).getD ((api_Object_3F (attach_AttachmentsF a0 a2.target) a2).toNat) default).phase) a1) := by first | exact (cond_f h0 (cond_t h1 rfl)) | simp only [attach_AfterF, h0, h1, cond_true, cond_false]
      exact ⟨trivial, .inl (by first | (rw [hF]; kernel_rfl) | kernel_rfl), by first | (rw [hF]; kernel_rfl) | kernel_rfl⟩
    · refine ⟨fun h2 => ?_, fun h2 => ?_⟩
      · have hF : attach_AfterF a0 a1 a2 a3 = (attach_writeF ((attach_AttachmentsF a0 a2.target).getD ((api_Object_3F (attach_AttachmentsF a0 a2.target) a2).toNat) default) (9 : Int) a1) := by first | exact (cond_f h0 (cond_f h1 (cond_t h2 rfl))) | simp only [attach_AfterF, h0, h1, h2, cond_true, cond_false]
        exact ⟨trivial, .inl (by first | (rw [hF]; kernel_rfl) | kernel_rfl), by first | (rw [hF]; kernel_rfl) | kernel_rfl⟩
      · refine ⟨fun h3 => ?_, fun h3 => ?_⟩
        · have hF : attach_AfterF a0 a1 a2 a3 = (⟨(1 : Int), ({ ((attach_AttachmentsF a0 a2.target).getD ((api_Object_3F (attach_AttachmentsF a0 a2.target) a2).toNat) default) with phase := (8 : Int), num := (0 : Int) } : XObj), (default : XCall)⟩ : XAct) := by first | exact (cond_f h0 (cond_f h1 (cond_f h2 (cond_t h3 rfl)))) | simp only [attach_AfterF, h0, h1, h2, h3, cond_true, cond_false]
          exact ⟨trivial, .inl (by first | (rw [hF]; kernel_rfl) | kernel_rfl), by first | (rw [hF]; kernel_rfl) | kernel_rfl⟩
        · refine ⟨fun h4 => ?_, fun h4 => ?_⟩
          · have hF : attach_AfterF a0 a1 a2 a3 = (⟨(2 : Int), ((attach_AttachmentsF a0 a2.target).getD ((api_Object_3F (attach_AttachmentsF a0 a2.target) a2).toNat) default), (default : XCall)⟩ : XAct) := by first | exact (cond_f h0 (cond_f h1 (cond_f h2 (cond_f h3 (cond_t h4 rfl))))) | simp only [attach_AfterF, h0, h1, h2, h3, h4, cond_true, cond_false]
            exact ⟨trivial, .inl (by first | (rw [hF]; kernel_rfl) | kernel_rfl), by first | (rw [hF]; kernel_rfl) | kernel_rfl⟩
          · have hF : attach_AfterF a0 a1 a2 a3 = (default : XAct) := by first | exact (cond_f h0 (cond_f h1 (cond_f h2 (cond_f h3 (cond_f h4 rfl))))) | simp only [attach_AfterF, h0, h1, h2, h3, h4, cond_true, cond_false]
            exact ⟨trivial, .inl (by first | (rw [hF]; kernel_rfl) | kernel_rfl), by first | (rw [hF]; kernel_rfl) | kernel_rfl⟩
noncomputable def attach_After_fact : Fact Try.prog := factOf 23 Try.f23 (by kernel_rfl) rfl (by kernel_rfl) [.c (.coll .obj), .c (.int .u64), .st .call, .res] [] true (fun t u => .agg (ac (attach_AfterF t.1 t.2.1 t.2.2.1 t.2.2.2.1))) (fun t u => []) (fun t u => [t.1.length ≤ 64, ∀ o ∈ t.1, o.Fine, t.2.2.1.target.size ≤ 140737488351232])
  (fun _ _ _ => rfl) (fun t u => by kernel_rfl) (fun t u => by kernel_rfl) (fun t u h => attach_AfterF_tr t.1 t.2.1 t.2.2.1 t.2.2.2.1 (h _ List.mem_cons_self) (h _ (List.mem_cons_of_mem _ List.mem_cons_self)) (h _ (List.mem_cons_of_mem _ (List.mem_cons_of_mem _ List.mem_cons_self))))
noncomputable def E_r12_Remove : Env := envOf (P := Try.prog) [] [] [] ckf
def r12_RemoveF (a0 : XObj) : XAct :=
  (⟨(2 : Int), a0, (default : XCall)⟩ : XAct)
def r12_RemoveR (a0 : XObj) : RT :=
  (.leaf .ret ⟨slots 5 [(2, .ptr 0 0)], [.cells 42 [.int .u8 2, .int .u8 a0.kind, .str a0.name, .int .u64 a0.version, .int .u64 a0.born, .bool a0.deleting, .bool a0.hold, .str a0.cls, .int .i64 a0.size, .int .i64 a0.got, .int .u8 a0.mode, .bool a0.keep, .bool a0.wait, .str a0.zone, .str a0.node, .str a0.claim, .str a0.volume, .str a0.source, .int .u8 a0.phase, .int .u64 a0.num, .int .u64 a0.tag, .int .u8 0, .str (⟨#[]⟩ : ByteArray), .int .u64 0, .int .i64 0, .str (⟨#[]⟩ : ByteArray), .str (⟨#[]⟩ : ByteArray), .str (⟨#[]⟩ : ByteArray)]]⟩ [1])
theorem r12_RemoveF_tr (a0 : XObj)  : Tr Try.prog 0 (bodyOf Try.f53) (fnBegins Try.f53 [.agg (oc a0)] []) (fnEnds Try.prog Try.f53 (.agg (ac (r12_RemoveF a0))) []) := by
  refine Tr_tree (kok _ _ _ _ _ _) (E := E_r12_Remove) (L := noLoops) 60 9999 LoopsOk.none (r12_RemoveR a0) (by kernel_rfl) (by kernel_rfl) (by kernel_rfl) ?_
  unfold r12_RemoveR
  exact ⟨trivial, .inl (by kernel_rfl), by kernel_rfl⟩
noncomputable def r12_Remove_fact : Fact Try.prog := factOf 53 Try.f53 (by kernel_rfl) rfl (by kernel_rfl) [.st .obj] [] true (fun t u => .agg (ac (r12_RemoveF t.1))) (fun t u => []) (fun t u => [])
  (fun _ _ _ => rfl) (fun t u => by kernel_rfl) (fun t u => by kernel_rfl) (fun t u h => r12_RemoveF_tr t.1 )
noncomputable def E_r13_After : Env := envOf (P := Try.prog) [r13_Volume_fact, r13_Attachments_fact, r12_Write_fact, r12_Remove_fact] [] [] ckf
def r13_AfterLF (a2 : XCall) : List XObj → Bool → XObj → XObj
  | [], v1, v7 => v7
  | o :: r, v1, v7 => cond (cond (cond (!v1) (decide ((o.node) = a2.node)) false) ((o.num) == a2.num) false)
    (r13_AfterLF a2 r true o)
    (r13_AfterLF a2 r v1 v7)
def r13_AfterLS (a0 : List XObj) (a1 : Int) (a2 : XCall) (a3 : XRes) (v1 : Bool) (i : Nat) (v7 : XObj) : St :=
  ⟨slots 114 [(1, .int .u64 a1), (6, .ptr 0 0), (7, .ptr 1 0), (8, .ptr 2 0), (10, .vec 3), (11, .ptr 4 0), (12, .bool v1), (13, .int .i64 (i : Int))], [.cells 40 (cc a2), .cells 51 [.int .i64 a3.err, .int .i64 a3.size, .str a3.zone, .int .u64 a3.tag], .cells 42 [.int .u8 0, .int .u8 0, .str (⟨#[]⟩ : ByteArray), .int .u64 0, .int .u64 0, .bool false, .bool false, .str (⟨#[]⟩ : ByteArray), .int .i64 0, .int .i64 0, .int .u8 0, .bool false, .bool false, .str (⟨#[]⟩ : ByteArray), .str (⟨#[]⟩ : ByteArray), .str (⟨#[]⟩ : ByteArray), .str (⟨#[]⟩ : ByteArray), .str (⟨#[]⟩ : ByteArray), .int .u8 0, .int .u64 0, .int .u64 0, .int .u8 0, .str (⟨#[]⟩ : ByteArray), .int .u64 0, .int .i64 0, .str (⟨#[]⟩ : ByteArray), .str (⟨#[]⟩ : ByteArray), .str (⟨#[]⟩ : ByteArray)], .vec true ⟨.obj, r13_AttachmentsF a0 a2.target⟩, .cells 37 (oc v7)]⟩
def r13_AfterLR (a0 : List XObj) (a1 : Int) (a2 : XCall) (a3 : XRes) (v1 : Bool) (i : Nat) (v7 : XObj) : RT :=
  (.ask (decide ((i : Int) < ((r13_AttachmentsF a0 a2.target).length : Int)))
    (.need [((!v1) = true) → (0 ≤ (i : Int) ∧ (i : Int) < ((r13_AttachmentsF a0 a2.target).length : Int)), ((cond (!v1) (decide ((((r13_AttachmentsF a0 a2.target).getD i default).node) = a2.node)) false) = true) → (0 ≤ (i : Int) ∧ (i : Int) < ((r13_AttachmentsF a0 a2.target).length : Int))]
      (.ask (cond (cond (!v1) (decide ((((r13_AttachmentsF a0 a2.target).getD i default).node) = a2.node)) false) ((((r13_AttachmentsF a0 a2.target).getD i default).num) == a2.num) false)
        (.need [0 ≤ (i : Int) ∧ (i : Int) < ((r13_AttachmentsF a0 a2.target).length : Int)]
          (.leaf .normal ⟨slots 114 [(1, .int .u64 a1), (6, .ptr 0 0), (7, .ptr 1 0), (8, .ptr 2 0), (10, .vec 3), (11, .ptr 4 0), (12, .bool true), (13, .int .i64 (IntKind.i64.wrap ((i : Int) + (1 : Int))))], [.cells 40 (cc a2), .cells 51 [.int .i64 a3.err, .int .i64 a3.size, .str a3.zone, .int .u64 a3.tag], .cells 42 [.int .u8 0, .int .u8 0, .str (⟨#[]⟩ : ByteArray), .int .u64 0, .int .u64 0, .bool false, .bool false, .str (⟨#[]⟩ : ByteArray), .int .i64 0, .int .i64 0, .int .u8 0, .bool false, .bool false, .str (⟨#[]⟩ : ByteArray), .str (⟨#[]⟩ : ByteArray), .str (⟨#[]⟩ : ByteArray), .str (⟨#[]⟩ : ByteArray), .str (⟨#[]⟩ : ByteArray), .int .u8 0, .int .u64 0, .int .u64 0, .int .u8 0, .str (⟨#[]⟩ : ByteArray), .int .u64 0, .int .i64 0, .str (⟨#[]⟩ : ByteArray), .str (⟨#[]⟩ : ByteArray), .str (⟨#[]⟩ : ByteArray)], .vec true ⟨.obj, r13_AttachmentsF a0 a2.target⟩, .cells 37 (oc ((r13_AttachmentsF a0 a2.target).getD i default))]⟩ []))
        (.leaf .normal ⟨slots 114 [(1, .int .u64 a1), (6, .ptr 0 0), (7, .ptr 1 0), (8, .ptr 2 0), (10, .vec 3), (11, .ptr 4 0), (12, .bool v1), (13, .int .i64 (IntKind.i64.wrap ((i : Int) + (1 : Int))))], [.cells 40 (cc a2), .cells 51 [.int .i64 a3.err, .int .i64 a3.size, .str a3.zone, .int .u64 a3.tag], .cells 42 [.int .u8 0, .int .u8 0, .str (⟨#[]⟩ : ByteArray), .int .u64 0, .int .u64 0, .bool false, .bool false, .str (⟨#[]⟩ : ByteArray), .int .i64 0, .int .i64 0, .int .u8 0, .bool false, .bool false, .str (⟨#[]⟩ : ByteArray), .str (⟨#[]⟩ : ByteArray), .str (⟨#[]⟩ : ByteArray), .str (⟨#[]⟩ : ByteArray), .str (⟨#[]⟩ : ByteArray), .int .u8 0, .int .u64 0, .int .u64 0, .int .u8 0, .str (⟨#[]⟩ : ByteArray), .int .u64 0, .int .i64 0, .str (⟨#[]⟩ : ByteArray), .str (⟨#[]⟩ : ByteArray), .str (⟨#[]⟩ : ByteArray)], .vec true ⟨.obj, r13_AttachmentsF a0 a2.target⟩, .cells 37 (oc v7)]⟩ [])))
    (.leaf (.exit 0) ⟨slots 114 [(1, .int .u64 a1), (6, .ptr 0 0), (7, .ptr 1 0), (8, .ptr 2 0), (11, .ptr 3 0)], [.cells 40 (cc a2), .cells 51 [.int .i64 a3.err, .int .i64 a3.size, .str a3.zone, .int .u64 a3.tag], .cells 42 [.int .u8 0, .int .u8 0, .str (⟨#[]⟩ : ByteArray), .int .u64 0, .int .u64 0, .bool false, .bool false, .str (⟨#[]⟩ : ByteArray), .int .i64 0, .int .i64 0, .int .u8 0, .bool false, .bool false, .str (⟨#[]⟩ : ByteArray), .str (⟨#[]⟩ : ByteArray), .str (⟨#[]⟩ : ByteArray), .str (⟨#[]⟩ : ByteArray), .str (⟨#[]⟩ : ByteArray), .int .u8 0, .int .u64 0, .int .u64 0, .int .u8 0, .str (⟨#[]⟩ : ByteArray), .int .u64 0, .int .i64 0, .str (⟨#[]⟩ : ByteArray), .str (⟨#[]⟩ : ByteArray), .str (⟨#[]⟩ : ByteArray)], .cells 37 (oc v7)]⟩ [0, 1, 2, 4]))
def r13_AfterLT (a0 : List XObj) (a1 : Int) (a2 : XCall) (a3 : XRes) (v1 : Bool) (i : Nat) (v7 : XObj) : Tree :=
  .leaf (.exit 0) ⟨slots 114 [(1, .int .u64 a1), (6, .ptr 0 0), (7, .ptr 1 0), (8, .ptr 2 0), (11, .ptr 3 0)], [.cells 40 (cc a2), .cells 51 [.int .i64 a3.err, .int .i64 a3.size, .str a3.zone, .int .u64 a3.tag], .cells 42 [.int .u8 0, .int .u8 0, .str (⟨#[]⟩ : ByteArray), .int .u64 0, .int .u64 0, .bool false, .bool false, .str (⟨#[]⟩ : ByteArray), .int .i64 0, .int .i64 0, .int .u8 0, .bool false, .bool false, .str (⟨#[]⟩ : ByteArray), .str (⟨#[]⟩ : ByteArray), .str (⟨#[]⟩ : ByteArray), .str (⟨#[]⟩ : ByteArray), .str (⟨#[]⟩ : ByteArray), .int .u8 0, .int .u64 0, .int .u64 0, .int .u8 0, .str (⟨#[]⟩ : ByteArray), .int .u64 0, .int .i64 0, .str (⟨#[]⟩ : ByteArray), .str (⟨#[]⟩ : ByteArray), .str (⟨#[]⟩ : ByteArray)], .cells 37 (oc (r13_AfterLF a2 ((r13_AttachmentsF a0 a2.target).drop i) v1 v7))]⟩
theorem r13_AfterL_loop (a0 : List XObj) (a1 : Int) (a2 : XCall) (a3 : XRes) (hp0 : a0.length ≤ 64) (hp1 : ∀ o ∈ a0, o.Fine) (hp2 : a2.target.size ≤ 140737488351232) (hlen : (r13_AttachmentsF a0 a2.target).length < 4611686018427387904) (z : { z : Bool × Nat × XObj // z.2.1 ≤ (r13_AttachmentsF a0 a2.target).length }) (Q : Exit → St → Prop) (h : (r13_AfterLT a0 a1 a2 a3 z.1.1 z.1.2.1 z.1.2.2).All Q) : Tr Try.prog 0 (.loop (loopAt Try.f24 0)) (r13_AfterLS a0 a1 a2 a3 z.1.1 z.1.2.1 z.1.2.2) Q := by
  refine Tr_loopT (kok _ _ _ _ _ _) (E := E_r13_After) (ι := { z : Bool × Nat × XObj // z.2.1 ≤ (r13_AttachmentsF a0 a2.target).length }) 60 0 (fun _ => noLoops) (fun z => r13_AfterLS a0 a1 a2 a3 z.1.1 z.1.2.1 z.1.2.2) (fun z => r13_AfterLT a0 a1 a2 a3 z.1.1 z.1.2.1 z.1.2.2) (fun z => r13_AfterLR a0 a1 a2 a3 z.1.1 z.1.2.1 z.1.2.2) (fun z => (r13_AttachmentsF a0 a2.target).length - z.1.2.1) (fun _ => LoopsOk.none) (fun z => by obtain ⟨⟨v1, i, v7⟩, hi⟩ := z; kernel_rfl) (fun z => by obtain ⟨⟨v1, i, v7⟩, hi⟩ := z; kernel_rfl) (fun z => by obtain ⟨⟨v1, i, v7⟩, hi⟩ := z; kernel_rfl) ?_ z Q h
  rintro ⟨⟨v1, i, v7⟩, hi⟩ Q hT
  replace hT : (r13_AfterLT a0 a1 a2 a3 v1 i v7).All Q := hT
  replace hi : i ≤ (r13_AttachmentsF a0 a2.target).length := hi
  show (r13_AfterLR a0 a1 a2 a3 v1 i v7).All _
  unfold r13_AfterLR
  refine ⟨fun h0 => ?_, fun h0 => ?_⟩
  · have hlt : i < (r13_AttachmentsF a0 a2.target).length := by simpa using h0
    have hd := drop_getD hlt
    have hw := wrap_succ (i := i) (by omega)
    refine ⟨need_cons (by first | assumption | omega | (intro; omega) | (simp only [decide_eq_true_eq, decide_eq_false_iff_not, Bool.cond_false_right, Bool.cond_true_right, Bool.cond_true_left, Bool.cond_false_left, Bool.and_eq_true, Bool.or_eq_true, Bool.not_eq_true', bytesLim, maxLen, List.length_cons, List.length_nil, List.length_append, byteSize_lit] at *; omega) | (intro; simp only [decide_eq_true_eq, decide_eq_false_iff_not, Bool.cond_false_right, Bool.cond_true_right, Bool.cond_true_left, Bool.cond_false_left, Bool.and_eq_true, Bool.or_eq_true, Bool.not_eq_true', bytesLim, maxLen, List.length_cons, List.length_nil, List.length_append, byteSize_lit] at *; omega)) (need_cons (by first | assumption | omega | (intro; omega) | (simp only [decide_eq_true_eq, decide_eq_false_iff_not, Bool.cond_false_right, Bool.cond_true_right, Bool.cond_true_left, Bool.cond_false_left, Bool.and_eq_true, Bool.or_eq_true, Bool.not_eq_true', bytesLim, maxLen, List.length_cons, List.length_nil, List.length_append, byteSize_lit] at *; omega) | (intro; simp only [decide_eq_true_eq, decide_eq_false_iff_not, Bool.cond_false_right, Bool.cond_true_right, Bool.cond_true_left, Bool.cond_false_left, Bool.and_eq_true, Bool.or_eq_true, Bool.not_eq_true', bytesLim, maxLen, List.length_cons, List.length_nil, List.length_append, byteSize_lit] at *; omega)) (need_nil)), ?_⟩
    refine ⟨fun h1 => ?_, fun h1 => ?_⟩
    · refine ⟨need_cons (by first | assumption | omega | (intro; omega) | (simp only [decide_eq_true_eq, decide_eq_false_iff_not, Bool.cond_false_right, Bool.cond_true_right, Bool.cond_true_left, Bool.cond_false_left, Bool.and_eq_true, Bool.or_eq_true, Bool.not_eq_true', bytesLim, maxLen, List.length_cons, List.length_nil, List.length_append, byteSize_lit] at *; omega) | (intro; simp only [decide_eq_true_eq, decide_eq_false_iff_not, Bool.cond_false_right, Bool.cond_true_right, Bool.cond_true_left, Bool.cond_false_left, Bool.and_eq_true, Bool.or_eq_true, Bool.not_eq_true', bytesLim, maxLen, List.length_cons, List.length_nil, List.length_append, byteSize_lit] at *; omega)) (need_nil), ?_⟩
      have hF : r13_AfterLF a2 ((r13_AttachmentsF a0 a2.target).drop i) v1 v7 = r13_AfterLF a2 ((r13_AttachmentsF a0 a2.target).drop (i + 1)) true ((r13_AttachmentsF a0 a2.target).getD i default) := by rw [hd]; first | exact (cond_t h1 rfl) | simp only [r13_AfterLF, h0, h1, cond_true, cond_false]
      refine ⟨⟨(true, (i + 1), ((r13_AttachmentsF a0 a2.target).getD i default)), by show (i + 1) ≤ (r13_AttachmentsF a0 a2.target).length; omega⟩, by show (r13_AttachmentsF a0 a2.target).length - (i + 1) < (r13_AttachmentsF a0 a2.target).length - i; omega, ?_, ?_⟩
      · show _ = r13_AfterLS a0 a1 a2 a3 true (i + 1) ((r13_AttachmentsF a0 a2.target).getD i default)
        unfold r13_AfterLS
        simp only [hw]
      · show (r13_AfterLT a0 a1 a2 a3 true (i + 1) ((r13_AttachmentsF a0 a2.target).getD i default)).All Q
        unfold r13_AfterLT at hT ⊢
        rw [hF] at hT
        exact hT
    · have hF : r13_AfterLF a2 ((r13_AttachmentsF a0 a2.target).drop i) v1 v7 = r13_AfterLF a2 ((r13_AttachmentsF a0 a2.target).drop (i + 1)) v1 v7 := by rw [hd]; first | exact (cond_f h1 rfl) | simp only [r13_AfterLF, h0, h1, cond_true, cond_false]
      refine ⟨⟨(v1, (i + 1), v7), by show (i + 1) ≤ (r13_AttachmentsF a0 a2.target).length; omega⟩, by show (r13_AttachmentsF a0 a2.target).length - (i + 1) < (r13_AttachmentsF a0 a2.target).length - i; omega, ?_, ?_⟩
      · show _ = r13_AfterLS a0 a1 a2 a3 v1 (i + 1) v7
        unfold r13_AfterLS
        simp only [hw]
      · show (r13_AfterLT a0 a1 a2 a3 v1 (i + 1) v7).All Q
        unfold r13_AfterLT at hT ⊢
        rw [hF] at hT
        exact hT
  · have hge : ¬ i < (r13_AttachmentsF a0 a2.target).length := by simpa using h0
    have hd : (r13_AttachmentsF a0 a2.target).drop i = [] := List.drop_eq_nil_of_le (by omega)
    have hF : r13_AfterLF a2 ((r13_AttachmentsF a0 a2.target).drop i) v1 v7 = v7 := by rw [hd]; first | exact rfl | simp only [r13_AfterLF, h0, cond_true, cond_false]
    unfold r13_AfterLT at hT
    rw [hF] at hT
    exact hT
def r13_AfterF (a0 : List XObj) (a1 : Int) (a2 : XCall) (a3 : XRes) : XAct :=
  cond (cond (!(((r13_VolumeF a0 a1 a2.target).act) == (3 : Int))) true (!((((r13_VolumeF a0 a1 a2.target).call.verb) == a2.verb) && ((decide (((r13_VolumeF a0 a1 a2.target).call.target) = a2.target)) && ((((r13_VolumeF a0 a1 a2.target).call.num) == a2.num) && ((((r13_VolumeF a0 a1 a2.target).call.size) == a2.size) && ((decide (((r13_VolumeF a0 a1 a2.target).call.zone) = a2.zone)) && ((decide (((r13_VolumeF a0 a1 a2.target).call.node) = a2.node)) && (decide (((r13_VolumeF a0 a1 a2.target).call.source) = a2.source))))))))))
    (default : XAct)
    (cond (a3.err == (9 : Int))
      (r12_WriteF ({ (r13_AfterLF a2 (r13_AttachmentsF a0 a2.target) false (default : XObj)) with num := (IntKind.u64.wrap (a1 + (1 : Int))) } : XObj))
      (cond (cond (a2.verb == (4 : Int)) (a3.err == (0 : Int)) false)
        (r12_RemoveF (r13_AfterLF a2 (r13_AttachmentsF a0 a2.target) false (default : XObj)))
        (cond (cond (a2.verb == (3 : Int)) (a3.err == (0 : Int)) false)
          (r12_WriteF ({ (r13_AfterLF a2 (r13_AttachmentsF a0 a2.target) false (default : XObj)) with phase := (8 : Int), num := (0 : Int) } : XObj))
          (cond (cond (a2.verb == (3 : Int)) (a3.err == (5 : Int)) false)
            (r12_WriteF ({ (r13_AfterLF a2 (r13_AttachmentsF a0 a2.target) false (default : XObj)) with phase := (9 : Int), num := (IntKind.u64.wrap (a1 + (1 : Int))) } : XObj))
            (default : XAct)))))
def r13_AfterR (a0 : List XObj) (a1 : Int) (a2 : XCall) (a3 : XRes) : RT :=
  (.need [a0.length ≤ 64, ∀ o ∈ a0, o.Fine, a2.target.size ≤ 140737488351232]
    (.ask (cond (!(((r13_VolumeF a0 a1 a2.target).act) == (3 : Int))) true (!((((r13_VolumeF a0 a1 a2.target).call.verb) == a2.verb) && ((decide (((r13_VolumeF a0 a1 a2.target).call.target) = a2.target)) && ((((r13_VolumeF a0 a1 a2.target).call.num) == a2.num) && ((((r13_VolumeF a0 a1 a2.target).call.size) == a2.size) && ((decide (((r13_VolumeF a0 a1 a2.target).call.zone) = a2.zone)) && ((decide (((r13_VolumeF a0 a1 a2.target).call.node) = a2.node)) && (decide (((r13_VolumeF a0 a1 a2.target).call.source) = a2.source))))))))))
      (.leaf .ret ⟨slots 114 [(8, .ptr 0 0)], [.cells 42 [.int .u8 0, .int .u8 0, .str (⟨#[]⟩ : ByteArray), .int .u64 0, .int .u64 0, .bool false, .bool false, .str (⟨#[]⟩ : ByteArray), .int .i64 0, .int .i64 0, .int .u8 0, .bool false, .bool false, .str (⟨#[]⟩ : ByteArray), .str (⟨#[]⟩ : ByteArray), .str (⟨#[]⟩ : ByteArray), .str (⟨#[]⟩ : ByteArray), .str (⟨#[]⟩ : ByteArray), .int .u8 0, .int .u64 0, .int .u64 0, .int .u8 0, .str (⟨#[]⟩ : ByteArray), .int .u64 0, .int .i64 0, .str (⟨#[]⟩ : ByteArray), .str (⟨#[]⟩ : ByteArray), .str (⟨#[]⟩ : ByteArray)]]⟩ [2])
      (.need [a0.length ≤ 64]
        (.ask (a3.err == (9 : Int))
          (.leaf .ret ⟨slots 114 [(8, .ptr 0 0)], [.cells 42 (ac (r12_WriteF ({ (r13_AfterLF a2 (r13_AttachmentsF a0 a2.target) false (default : XObj)) with num := (IntKind.u64.wrap (a1 + (1 : Int))) } : XObj)))]⟩ [2])
          (.ask (cond (a2.verb == (4 : Int)) (a3.err == (0 : Int)) false)
            (.leaf .ret ⟨slots 114 [(8, .ptr 0 0)], [.cells 42 (ac (r12_RemoveF (r13_AfterLF a2 (r13_AttachmentsF a0 a2.target) false (default : XObj))))]⟩ [2])
            (.ask (cond (a2.verb == (3 : Int)) (a3.err == (0 : Int)) false)
              (.leaf .ret ⟨slots 114 [(8, .ptr 0 0)], [.cells 42 (ac (r12_WriteF ({ (r13_AfterLF a2 (r13_AttachmentsF a0 a2.target) false (default : XObj)) with phase := (8 : Int), num := (0 : Int) } : XObj)))]⟩ [2])
              (.ask (cond (a2.verb == (3 : Int)) (a3.err == (5 : Int)) false)
                (.leaf .ret ⟨slots 114 [(8, .ptr 0 0)], [.cells 42 (ac (r12_WriteF ({ (r13_AfterLF a2 (r13_AttachmentsF a0 a2.target) false (default : XObj)) with phase := (9 : Int), num := (IntKind.u64.wrap (a1 + (1 : Int))) } : XObj)))]⟩ [2])
                (.leaf .ret ⟨slots 114 [(8, .ptr 0 0)], [.cells 42 [.int .u8 0, .int .u8 0, .str (⟨#[]⟩ : ByteArray), .int .u64 0, .int .u64 0, .bool false, .bool false, .str (⟨#[]⟩ : ByteArray), .int .i64 0, .int .i64 0, .int .u8 0, .bool false, .bool false, .str (⟨#[]⟩ : ByteArray), .str (⟨#[]⟩ : ByteArray), .str (⟨#[]⟩ : ByteArray), .str (⟨#[]⟩ : ByteArray), .str (⟨#[]⟩ : ByteArray), .int .u8 0, .int .u64 0, .int .u64 0, .int .u8 0, .str (⟨#[]⟩ : ByteArray), .int .u64 0, .int .i64 0, .str (⟨#[]⟩ : ByteArray), .str (⟨#[]⟩ : ByteArray), .str (⟨#[]⟩ : ByteArray)]]⟩ [2]))))))))
theorem r13_AfterF_tr (a0 : List XObj) (a1 : Int) (a2 : XCall) (a3 : XRes) (hp0 : a0.length ≤ 64) (hp1 : ∀ o ∈ a0, o.Fine) (hp2 : a2.target.size ≤ 140737488351232) : Tr Try.prog 0 (bodyOf Try.f24) (fnBegins Try.f24 [.coll ⟨.obj, a0⟩, .int .u64 a1, .agg (cc a2), .agg [.int .i64 a3.err, .int .i64 a3.size, .str a3.zone, .int .u64 a3.tag]] []) (fnEnds Try.prog Try.f24 (.agg (ac (r13_AfterF a0 a1 a2 a3))) []) := by
  refine Tr_tree (kok _ _ _ _ _ _) (E := E_r13_After) (L := (loopsOf [(0, r13_AfterLS a0 a1 a2 a3 false 0 (default : XObj), [0, 1, 2, 4, 5], r13_AfterLT a0 a1 a2 a3 false 0 (default : XObj))])) 60 9999 (LoopsOk.one (g := loopAt Try.f24 0) (b := 0) (by kernel_rfl) (by kernel_rfl) (by kernel_rfl) (by kernel_rfl) (fun Q h => r13_AfterL_loop a0 a1 a2 a3 hp0 hp1 hp2 (by have h9 := r13_Attachments_len a0 a2.target; omega) ⟨(false, 0, (default : XObj)), by first | exact Nat.zero_le _ | (show 0 ≤ (r13_AttachmentsF a0 a2.target).length; omega) | (show 0 ≤ (r13_AttachmentsF a0 a2.target).length; exact ⟨Nat.zero_le _, by assumption⟩) | (show 0 ≤ (r13_AttachmentsF a0 a2.target).length; simp)⟩ Q h)) (r13_AfterR a0 a1 a2 a3) (by kernel_rfl) (by kernel_rfl) (by kernel_rfl) ?_
  unfold r13_AfterR
  refine ⟨need_cons (by first | assumption | omega | (intro; omega) | (simp only [decide_eq_true_eq, decide_eq_false_iff_not, Bool.cond_false_right, Bool.cond_true_right, Bool.cond_true_left, Bool.cond_false_left, Bool.and_eq_true, Bool.or_eq_true, Bool.not_eq_true', bytesLim, maxLen, List.length_cons, List.length_nil, List.length_append, byteSize_lit] at *; omega) | (intro; simp only [decide_eq_true_eq, decide_eq_false_iff_not, Bool.cond_false_right, Bool.cond_true_right, Bool.cond_true_left, Bool.cond_false_left, Bool.and_eq_true, Bool.or_eq_true, Bool.not_eq_true', bytesLim, maxLen, List.length_cons, List.length_nil, List.length_append, byteSize_lit] at *; omega)) (need_cons (by first | assumption | omega | (intro; omega) | (simp only [decide_eq_true_eq, decide_eq_false_iff_not, Bool.cond_false_right, Bool.cond_true_right, Bool.cond_true_left, Bool.cond_false_left, Bool.and_eq_true, Bool.or_eq_true, Bool.not_eq_true', bytesLim, maxLen, List.length_cons, List.length_nil, List.length_append, byteSize_lit] at *; omega) | (intro; simp only [decide_eq_true_eq, decide_eq_false_iff_not, Bool.cond_false_right, Bool.cond_true_right, Bool.cond_true_left, Bool.cond_false_left, Bool.and_eq_true, Bool.or_eq_true, Bool.not_eq_true', bytesLim, maxLen, List.length_cons, List.length_nil, List.length_append, byteSize_lit] at *; omega)) (need_cons (by first | assumption | omega | (intro; omega) | (simp only [decide_eq_true_eq, decide_eq_false_iff_not, Bool.cond_false_right, Bool.cond_true_right, Bool.cond_true_left, Bool.cond_false_left, Bool.and_eq_true, Bool.or_eq_true, Bool.not_eq_true', bytesLim, maxLen, List.length_cons, List.length_nil, List.length_append, byteSize_lit] at *; omega) | (intro; simp only [decide_eq_true_eq, decide_eq_false_iff_not, Bool.cond_false_right, Bool.cond_true_right, Bool.cond_true_left, Bool.cond_false_left, Bool.and_eq_true, Bool.or_eq_true, Bool.not_eq_true', bytesLim, maxLen, List.length_cons, List.length_nil, List.length_append, byteSize_lit] at *; omega)) (need_nil))), ?_⟩
  refine ⟨fun h0 => ?_, fun h0 => ?_⟩
  · have hF : r13_AfterF a0 a1 a2 a3 = (default : XAct) := by first | exact (cond_t h0 rfl) | simp only [r13_AfterF, h0, cond_true, cond_false]
    exact ⟨trivial, .inl (by first | (rw [hF]; kernel_rfl) | kernel_rfl), by first | (rw [hF]; kernel_rfl) | kernel_rfl⟩
  · refine ⟨need_cons (by first | assumption | omega | (intro; omega) | (simp only [decide_eq_true_eq, decide_eq_false_iff_not, Bool.cond_false_right, Bool.cond_true_right, Bool.cond_true_left, Bool.cond_false_left, Bool.and_eq_true, Bool.or_eq_true, Bool.not_eq_true', bytesLim, maxLen, List.length_cons, List.length_nil, List.length_append, byteSize_lit] at *; omega) | (intro; simp only [decide_eq_true_eq, decide_eq_false_iff_not, Bool.cond_false_right, Bool.cond_true_right, Bool.cond_true_left, Bool.cond_false_left, Bool.and_eq_true, Bool.or_eq_true, Bool.not_eq_true', bytesLim, maxLen, List.length_cons, List.length_nil, List.length_append, byteSize_lit] at *; omega)) (need_nil), ?_⟩
    refine ⟨fun h1 => ?_, fun h1 => ?_⟩
    · have hF : r13_AfterF a0 a1 a2 a3 = (r12_WriteF ({ (r13_AfterLF a2 (r13_AttachmentsF a0 a2.target) false (default : XObj)) with num := (IntKind.u64.wrap (a1 + (1 : Int))) } : XObj)) := by first | exact (cond_f h0 (cond_t h1 rfl)) | simp only [r13_AfterF, h0, h1, cond_true, cond_false]
      exact ⟨trivial, .inl (by first | (rw [hF]; kernel_rfl) | kernel_rfl), by first | (rw [hF]; kernel_rfl) | kernel_rfl⟩
    · refine ⟨fun h2 => ?_, fun h2 => ?_⟩
      · have hF : r13_AfterF a0 a1 a2 a3 = (r12_RemoveF (r13_AfterLF a2 (r13_AttachmentsF a0 a2.target) false (default : XObj))) := by first | exact (cond_f h0 (cond_f h1 (cond_t h2 rfl))) | simp only [r13_AfterF, h0, h1, h2, cond_true, cond_false]
        exact ⟨trivial, .inl (by first | (rw [hF]; kernel_rfl) | kernel_rfl), by first | (rw [hF]; kernel_rfl) | kernel_rfl⟩
      · refine ⟨fun h3 => ?_, fun h3 => ?_⟩
        · have hF : r13_AfterF a0 a1 a2 a3 = (r12_WriteF ({ (r13_AfterLF a2 (r13_AttachmentsF a0 a2.target) false (default : XObj)) with phase := (8 : Int), num := (0 : Int) } : XObj)) := by first | exact (cond_f h0 (cond_f h1 (cond_f h2 (cond_t h3 rfl)))) | simp only [r13_AfterF, h0, h1, h2, h3, cond_true, cond_false]
          exact ⟨trivial, .inl (by first | (rw [hF]; kernel_rfl) | kernel_rfl), by first | (rw [hF]; kernel_rfl) | kernel_rfl⟩
        · refine ⟨fun h4 => ?_, fun h4 => ?_⟩
          · have hF : r13_AfterF a0 a1 a2 a3 = (r12_WriteF ({ (r13_AfterLF a2 (r13_AttachmentsF a0 a2.target) false (default : XObj)) with phase := (9 : Int), num := (IntKind.u64.wrap (a1 + (1 : Int))) } : XObj)) := by first | exact (cond_f h0 (cond_f h1 (cond_f h2 (cond_f h3 (cond_t h4 rfl))))) | simp only [r13_AfterF, h0, h1, h2, h3, h4, cond_true, cond_false]
            exact ⟨trivial, .inl (by first | (rw [hF]; kernel_rfl) | kernel_rfl), by first | (rw [hF]; kernel_rfl) | kernel_rfl⟩
          · have hF : r13_AfterF a0 a1 a2 a3 = (default : XAct) := by first | exact (cond_f h0 (cond_f h1 (cond_f h2 (cond_f h3 (cond_f h4 rfl))))) | simp only [r13_AfterF, h0, h1, h2, h3, h4, cond_true, cond_false]
            exact ⟨trivial, .inl (by first | (rw [hF]; kernel_rfl) | kernel_rfl), by first | (rw [hF]; kernel_rfl) | kernel_rfl⟩
noncomputable def r13_After_fact : Fact Try.prog := factOf 24 Try.f24 (by kernel_rfl) rfl (by kernel_rfl) [.c (.coll .obj), .c (.int .u64), .st .call, .res] [] true (fun t u => .agg (ac (r13_AfterF t.1 t.2.1 t.2.2.1 t.2.2.2.1))) (fun t u => []) (fun t u => [t.1.length ≤ 64, ∀ o ∈ t.1, o.Fine, t.2.2.1.target.size ≤ 140737488351232])
  (fun _ _ _ => rfl) (fun t u => by kernel_rfl) (fun t u => by kernel_rfl) (fun t u h => r13_AfterF_tr t.1 t.2.1 t.2.2.1 t.2.2.2.1 (h _ List.mem_cons_self) (h _ (List.mem_cons_of_mem _ List.mem_cons_self)) (h _ (List.mem_cons_of_mem _ (List.mem_cons_of_mem _ List.mem_cons_self))))
end Go.Proofs.Ytbcnehpndoghcaa
