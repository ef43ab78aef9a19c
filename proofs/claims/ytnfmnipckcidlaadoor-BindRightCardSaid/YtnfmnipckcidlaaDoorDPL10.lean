/- Binding: plain laws: what is written after a call is right. -/
import Derived.Test.YtnfmnipckcidlaaDoorDPL9
import Derived.Test.YtnfmnipckcidlaaDoorDAfter
set_option linter.unusedVariables false
set_option linter.unusedSimpArgs false
set_option maxRecDepth 100000
namespace Go.Proofs.YtnfmnipckcidlaaDoor
open Go Go.Eng
theorem wr_eq (o : XObj) : bind_writeF o = r12_WriteF o := rfl
theorem rm_eq (o : XObj) : bind_removeF o = r12_RemoveF o := rfl
/-- What may be asked for a claim. -/
def AskP (c : XObj) (x : XAct) : Prop := x.act = 3 → x.call.verb = 2 ∨ (c.phase = 2 ∧ x.call.target = r12_HandleF c ∧ x.call.size = c.size ∧ x.call.zone = c.zone)
theorem askp_default (c : XObj) : AskP c default := fun h => absurd h (by decide)
theorem askp_remove (c o : XObj) : AskP c (r12_RemoveF o) := fun h => absurd h (by show ¬ (2 : Int) = 3; decide)
theorem askp_write (c o : XObj) : AskP c (r12_WriteF o) := fun h => absurd h (by show ¬ (1 : Int) = 3; decide)
theorem AskP.cond {c : XObj} {b : Bool} {x y : XAct} (hx : b = true → AskP c x) (hy : b = false → AskP c y) : AskP c (cond b x y) := by
  cases b
  · exact hy rfl
  · exact hx rfl
theorem askp_pending (l : List XObj) (v : Int) (c d : XObj) : AskP c (r12_pendingF l v d) := by
  unfold r12_pendingF
  repeat (first | (with_reducible refine AskP.cond (fun _ => ?_) (fun _ => ?_)) | with_reducible exact askp_default _ | with_reducible exact askp_write _ _)
theorem claim_ask (l : List XObj) (v : Int) (n : ByteArray) (h : (r12_ClaimF l v n).act = 3) : (r12_GetF (r12_UniqF l) 3 n).2 = true ∧ decide (r12_HandleF (r12_GetF (r12_UniqF l) 3 n).1 = (⟨#[]⟩ : ByteArray)) = false
    ∧ ((r12_ClaimF l v n).call.verb = 2 ∨ ((r12_GetF (r12_UniqF l) 3 n).1.phase = 2 ∧ (r12_ClaimF l v n).call.target = r12_HandleF (r12_GetF (r12_UniqF l) 3 n).1 ∧ (r12_ClaimF l v n).call.size = (r12_GetF (r12_UniqF l) 3 n).1.size ∧ (r12_ClaimF l v n).call.zone = (r12_GetF (r12_UniqF l) 3 n).1.zone)) := by
  have h0 : cond (!((r12_GetF (r12_UniqF l) 3 n).2)) true (decide ((r12_HandleF ((r12_GetF (r12_UniqF l) 3 n).1)) = (⟨#[]⟩ : ByteArray))) = false := by
    cases q : cond (!((r12_GetF (r12_UniqF l) 3 n).2)) true (decide ((r12_HandleF ((r12_GetF (r12_UniqF l) 3 n).1)) = (⟨#[]⟩ : ByteArray))) with
    | false => rfl
    | true =>
      unfold r12_ClaimF at h
      rw [q, cond_true] at h
      exact absurd h (by decide)
  have hp : AskP (r12_GetF (r12_UniqF l) 3 n).1 (r12_ClaimF l v n) := by
    unfold r12_ClaimF
    generalize (r12_GetF (r12_UniqF l) 3 n).1 = c
    refine AskP.cond (fun _ => askp_default _) (fun _ => AskP.cond (fun _ => AskP.cond (fun _ => askp_remove _ _) (fun _ => askp_default _)) (fun _ => AskP.cond (fun _ => askp_write _ _) (fun _ => AskP.cond (fun _ => AskP.cond (fun _ => askp_remove _ _) (fun _ => AskP.cond (fun _ => askp_write _ _) (fun _ => ?_))) (fun _ => AskP.cond (fun h2 => ?_) (fun _ => AskP.cond (fun _ => askp_default _) (fun _ => askp_pending _ _ _ _))))))
    · exact fun _ => .inl rfl
    · have h2 : c.phase = 2 := by simpa using h2
      exact AskP.cond (fun _ => AskP.cond (fun _ => askp_default _) (fun _ => fun _ => .inr ⟨h2, rfl, rfl, rfl⟩)) (fun _ => fun _ => .inr ⟨h2, rfl, rfl, rfl⟩)
  rw [cond_or, Bool.or_eq_false_iff, Bool.not_eq_false'] at h0
  exact ⟨h0.1, h0.2, hp h⟩
def AskV (x : XAct) : Prop := x.act = 3 → x.call.verb = 2
theorem AskV.cond {b : Bool} {x y : XAct} (hx : AskV x) (hy : AskV y) : AskV (cond b x y) := by
  cases b
  · exact hy
  · exact hx
theorem askv_default : AskV default := fun h => absurd h (by decide)
theorem askv_write (o : XObj) : AskV (r12_WriteF o) := fun h => absurd h (by show ¬ (1 : Int) = 3; decide)
theorem volume_ask (l : List XObj) (v : Int) (n : ByteArray) (h : (r12_VolumeF l v n).act = 3) : (r12_VolumeF l v n).call.verb = 2 := by
  have : AskV (r12_VolumeF l v n) := by
    unfold r12_VolumeF
    exact AskV.cond askv_default (AskV.cond (AskV.cond askv_default (askv_write _)) (AskV.cond (AskV.cond askv_default (AskV.cond (askv_write _) (askv_write _))) (AskV.cond (AskV.cond askv_default (fun _ => rfl)) askv_default)))
  exact this h
theorem default_new {x : XObj} (hk : x.kind = 4) (hp : x.phase = 3) (hm : x.mode ≠ 0) (hg : x.got ≠ 0) : object_DefaultF x = { x with hold := true } := by
  obtain ⟨k, nm, ve, bo, de, ho, cl, sz, go, mo, ke, wa, zo, nd, cm, vo, so, ph, nu, tg⟩ := x
  dsimp only at hk hp hm hg
  subst hk hp
  have hm' : (mo == (0 : Int)) = false := by simpa using hm
  have hg' : (go == (0 : Int)) = false := by simpa using hg
  unfold object_DefaultF
  dsimp only
  rw [hm', hg']
  cases ho <;> rfl
/-- After a call for a claim. -/
theorem made_good {v : Int} {c : XObj} (hc : r03_RightF c = true) (hk : c.kind = 3) (hh : decide (r12_HandleF c = (⟨#[]⟩ : ByteArray)) = false) (a3 : XCall) (a4 : XRes) (k w : Bool) (hs : a4.size = a3.size) (hz : a4.zone = a3.zone) (hn : a3.zone ≠ (⟨#[]⟩ : ByteArray))
    (ha : a3.verb = 2 ∨ (c.phase = 2 ∧ a3.target = r12_HandleF c ∧ a3.size = c.size ∧ a3.zone = c.zone)) :
    Good (cond (a4.err == (9 : Int)) (r12_WriteF ({ c with num := (IntKind.u64.wrap (v + (1 : Int))) } : XObj)) (cond (a3.verb == (2 : Int)) (cond (a4.err == (0 : Int)) (r12_RemoveF c) default) (cond (a4.err == (13 : Int)) default (cond (a4.err == (0 : Int))
      (r12_WriteF (object_DefaultF (⟨(4 : Int), a3.target, (0 : Int), (0 : Int), false, false, c.cls, c.size, a4.size, c.mode, k, false, a4.zone, (⟨#[]⟩ : ByteArray), bind_RefF c, (⟨#[]⟩ : ByteArray), (⟨#[]⟩ : ByteArray), (3 : Int), (0 : Int), (0 : Int)⟩ : XObj)))
      (cond w (r12_WriteF ({ c with zone := (⟨#[]⟩ : ByteArray), node := (⟨#[]⟩ : ByteArray), phase := (1 : Int), num := (IntKind.u64.wrap (v + (1 : Int))) } : XObj)) (r12_WriteF ({ c with zone := (⟨#[]⟩ : ByteArray), phase := (1 : Int), num := (IntKind.u64.wrap (v + (1 : Int))) } : XObj))))))) := by
  have r3 := (right3 c hk).1 hc
  have me := maybe_empty
  refine Good.cond (fun _ => ?_) (fun _ => Good.cond (fun _ => Good.cond (fun _ => good_remove _) (fun _ => good_default)) (fun hv => ?_))
  · refine good_w3 hk ?_
    unfold R3 at r3 ⊢
    dsimp only
    exact r3
  · have hv : a3.verb ≠ 2 := by simpa using hv
    obtain ⟨h1, h2, h3, h4⟩ := ha.resolve_left hv
    refine Good.cond (fun _ => good_default) (fun _ => Good.cond (fun _ => ?_) (fun _ => Good.cond (fun _ => ?_) (fun _ => ?_)))
    · obtain ⟨n1, n2, n3⟩ := ref_ok (right_name hc) hh
      have m1 := maybe_of n1
      rw [ref_eq, h2, hs, hz, h3, h4]
      rw [h4] at hn
      unfold R3 at r3
      rw [default_new rfl rfl (by dsimp only; grind) (by dsimp only; grind)]
      refine good_w4 rfl ?_
      unfold R4
      dsimp only
      grind
    · refine good_w3 hk ?_
      unfold R3 at r3 ⊢
      dsimp only
      grind
    · refine good_w3 hk ?_
      unfold R3 at r3 ⊢
      dsimp only
      grind
theorem after_good {l : List XObj} (hl : ∀ o ∈ l, r03_RightF o = true) (v k : Int) (n : ByteArray) (a3 : XCall) (e x : Int) (hn : a3.zone ≠ (⟨#[]⟩ : ByteArray)) : Good (bind_AfterF l v ⟨k, n⟩ a3 ⟨e, a3.size, a3.zone, x⟩) := by
  have hu := uniq_right hl
  unfold bind_AfterF
  rw [of_eq]
  simp only [wr_eq, rm_eq, get_eq, Claim_eq, Volume_eq]
  refine Good.cond (fun h => ?_) (fun _ => Good.cond (fun h => ?_) (fun _ => ?_))
  · rw [cond_and, Bool.and_eq_true, beq_iff_eq] at h
    obtain ⟨hg, hk⟩ := h
    subst hk
    refine Good.cond (fun _ => good_default) (fun hq => ?_)
    rw [Bool.not_eq_false'] at hq
    simp only [Bool.and_eq_true, decide_eq_true_eq, beq_iff_eq] at hq
    obtain ⟨qa, -, qv, qt, -, qs, qz, -⟩ := hq
    obtain ⟨h1, h2, h3⟩ := claim_ask (r12_UniqF l) v n qa
    rw [get_uniq] at h1 h2 h3
    obtain ⟨hc, hk⟩ := get_right hu hg
    rw [qv, qt, qs, qz] at h3
    exact made_good hc hk h2 a3 ⟨e, a3.size, a3.zone, x⟩ _ _ rfl rfl hn h3
  · rw [cond_and, Bool.and_eq_true, beq_iff_eq] at h
    obtain ⟨hg, hk⟩ := h
    subst hk
    refine Good.cond (fun _ => good_default) (fun hq => ?_)
    rw [Bool.not_eq_false'] at hq
    simp only [Bool.and_eq_true, decide_eq_true_eq, beq_iff_eq] at hq
    obtain ⟨qa, -, qv, -⟩ := hq
    have h1 := volume_ask (r12_UniqF l) v n qa
    rw [qv] at h1
    have h1 : a3.verb = 2 := h1
    obtain ⟨hc, hk⟩ := get_right hu hg
    have r4 := (right4 _ hk).1 hc
    rw [h1]
    refine Good.cond (fun _ => ?_) (fun _ => Good.cond (fun _ => Good.cond (fun _ => good_remove _) (fun _ => good_default)) (fun h => absurd h (by decide)))
    refine good_w4 hk ?_
    unfold R4 at r4 ⊢
    dsimp only
    exact r4
  · refine Good.cond (fun _ => good_default) (fun hq => ?_)
    rw [Bool.not_eq_false'] at hq
    exact absurd hq (by rw [Bool.and_eq_true, beq_iff_eq]; intro h; exact absurd h.1 (by show ¬ (0 : Int) = 3; decide))
theorem rightLF : ∀ l : List XObj, w12_rightLF l = false → ∀ o ∈ l, r03_RightF o = true
  | [], _, o, h => by simp at h
  | p :: r, h, o, ho => by
    unfold w12_rightLF at h
    cases hp : r03_RightF p with
    | false => rw [hp] at h; cases h
    | true =>
      rw [hp] at h
      rcases List.mem_cons.1 ho with rfl | ho
      · exact hp
      · exact rightLF r h o ho
theorem good_bool {x : XAct} (h : Good x) : cond (!(x.act == (1 : Int))) true (r03_RightF x.obj) = true := by
  by_cases q : x.act = 1
  · rw [h q, q]; rfl
  · have : (x.act == (1 : Int)) = false := by simpa using q
    rw [this]; rfl
end Go.Proofs.YtnfmnipckcidlaaDoor
