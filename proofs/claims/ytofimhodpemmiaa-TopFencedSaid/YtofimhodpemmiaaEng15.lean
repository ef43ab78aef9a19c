/- The engine, part 15: deferred functions that recover. -/
import Derived.Test.YtofimhodpemmiaaEng14
import Derived.Recover
namespace Go.Eng
open Go.RowKit (Below)

theorem wpOpsS_step {P : Program} {ops : Array Oper} {Q : Exit → Act → List Frame → World → Prop} {a : Act} {cs : List Frame} {w : World} {i : Nat} {rest : List Nat} {o : Oper} (ho : ops[i]? = some o)
    (h : if Region.wanted o (yielded ops a.tmps) then o.wp P a w (fun a' w' => wpOpsS P ops Q rest a' cs w') (fun e a' w' => Q e a' cs w') else wpOpsS P ops Q rest (a.put o.dst undef) cs w) : wpOpsS P ops Q (i :: rest) a cs w := by
  unfold wpOpsS
  simp only [ho]
  split
  · rename_i hw
    rw [if_pos hw] at h
    unfold Oper.wp at h
    split
    · rename_i w' hr
      rw [hr] at h
      exact h.elim
    · exact h
  · rename_i hw
    rw [if_neg hw] at h
    exact h
theorem wpOpsS_none {P : Program} {ops : Array Oper} {Q : Exit → Act → List Frame → World → Prop} {a : Act} {cs : List Frame} {w : World} {i : Nat} {rest : List Nat} {o : Oper} (ho : ops[i]? = some o) (hg : o.guard = none)
    (hr : (execOp a.eval o).run P w = .ok .recover w) (hn : recoverD cs = none) (h : wpOpsS P ops Q rest (a.put o.dst .nilIface) cs w) : wpOpsS P ops Q (i :: rest) a cs w := by
  unfold wpOpsS
  simp only [ho, Region.wanted, hg, if_true, hr, hn]
  exact h
theorem wpOpsS_some {P : Program} {ops : Array Oper} {Q : Exit → Act → List Frame → World → Prop} {a : Act} {cs cs' : List Frame} {w : World} {i : Nat} {rest : List Nat} {o : Oper} {v : Value} (ho : ops[i]? = some o) (hg : o.guard = none)
    (hr : (execOp a.eval o).run P w = .ok .recover w) (hn : recoverD cs = some (v, cs')) (h : wpOpsS P ops Q rest (a.put o.dst v) cs' w) : wpOpsS P ops Q (i :: rest) a cs w := by
  unfold wpOpsS
  simp only [ho, Region.wanted, hg, if_true, hr, hn]
  exact h
/-- Steps of the text's order, in a deferred function. -/
def runS (E : Env) (ops : List Oper) : List Oper → St → Option St
  | [], s => some s
  | o :: r, s => match stepR E ops [] o s with
    | some ([], s') => runS E ops r s'
    | _ => none
theorem runS_sound {E : Env} {B : Nat → Prop} {w0 : World} {M0 : Mem} {D : List Deferred} {ops : List Oper} {Q : Exit → Act → List Frame → World → Prop} {cs : List Frame} (hK : KOk E) {s1 : St} : ∀ (l : List Oper) (i : Nat) (s : St) (a : Act) (w : World) (ρ : Loc) (M : Mem),
    runS E ops l s = some s1 → (∀ j o, l[j]? = some o → ops[i + j]? = some o) → SimH B w0 M0 s.h w ρ M → SimT D ρ M (yG ops.toArray a) s.t a →
    (∀ a' w' ρ' M', ρ.le ρ' → M.le M' → SimH B w0 M0 s1.h w' ρ' M' → SimT D ρ' M' (yG ops.toArray a') s1.t a' → Q .normal a' cs w') → wpOpsS E.P ops.toArray Q (List.range' i l.length) a cs w
  | [], i, s, a, w, ρ, M, he, _, H, T, hQ => by
    simp only [runS, Option.some.injEq] at he
    subst he
    exact hQ a w ρ M (Loc.le_refl _) (Mem.le_refl _) H T
  | o :: l, i, s, a, w, ρ, M, he, hl, H, T, hQ => by
    simp only [runS] at he
    split at he
    · rename_i s' hs
      simp only [List.length_cons, List.range'_succ]
      refine wpOpsS_step (o := o) (by simpa using hl 0 o rfl) (stepR_sound hK (fun _ _ h => by cases h) hs (by simp) H T _ _ ?_)
      intro v w' ρ' M' l1 l2 H' T'
      exact runS_sound hK l (i + 1) s' _ w' ρ' M' he (fun j o' h => by have := hl (j + 1) o' (by simpa using h); rw [← this]; congr 1; omega) H' T' fun a'' w'' ρ'' M'' k1 k2 => hQ a'' w'' ρ'' M'' (Loc.le_trans l1 k1) (Mem.le_trans l2 k2)
    · cases he
/-- What a deferred function does that asks first whether there is a panic: u is the state of the function that is left, rv what recover tells. -/
theorem deferred_sound {E : Env} (hK : KOk E) {f : FuncId} {fn : Func} {id : Nat} {o : Oper} {ops : List Oper} {rest : Code} (hf : E.P.funcs[f]? = some fn) (hb : fn.body = some (.seq (.region id (o :: ops).toArray false) rest))
    (hg : o.guard = none) (hrec : ∀ (a : Act) (w : World), (execOp a.eval o).run E.P w = .ok .recover w) (hres : fn.results = #[]) {u : FrameMode} {rv : AV} {args : List AV} {h : List AObj} {s1 : St} {Q1 : St → Prop}
    (hu : (u = .returning ∧ rv = .nili) ∨ ∃ v, u = .panicking [{ v, recovered := false }] ∧ ∀ (ρ : Loc) (M : Mem), rep ρ M noG rv v)
    (hargs : (args ++ List.replicate (fn.ntmps - args.length) AV.unk).map (ungrd []) = args ++ List.replicate (fn.ntmps - args.length) AV.unk)
    (hrv : ungrd [] rv = rv) (hrun : runS E (o :: ops) ops ⟨putS (o :: ops) (args ++ List.replicate (fn.ntmps - args.length) AV.unk) o.dst rv, h⟩ = some s1)
    (htr : Tr E.P h.length rest (cleanS s1) fun e s => (e = .normal ∨ e = .ret) ∧ Q1 s) {B : Nat → Prop} {w0 w : World} {M0 M : Mem} {ρ : Loc} {vs : List Value} (H : SimH B w0 M0 h w ρ M) (hvs : repL ρ M noG args vs) :
    CallsD E.P f ⟨vs⟩ u w fun (e : Ending) u' w' => e = .returned (.tuple #[]) ∧ settle u' = .returning ∧ ∃ s ρ' M', Q1 s ∧ kept h.length ρ ρ' ∧ M.le M' ∧ SimH B w0 M0 s.h w' ρ' M' := by
  refine callsD_of_wpS hf hb fun c₀ cs hm => ?_
  have hlen := repL_length hvs
  have hT : SimT [] ρ M noG (args ++ List.replicate (fn.ntmps - args.length) .unk) { tmps := (⟨vs⟩ : Array Value) ++ Array.replicate (fn.ntmps - (⟨vs⟩ : Array Value).size) undef, defers := [] } := by
    refine ⟨by simp [hlen], rfl, fun i => ?_⟩
    rw [List.getD_eq_getElem?_getD, Array.getD_eq_getD_getElem?]
    rcases Nat.lt_or_ge i args.length with hi | hi
    · rw [List.getElem?_append_left hi, Array.getElem?_append_left (by simpa [← hlen] using hi)]
      obtain ⟨v, hv, hr⟩ := repL_get hvs i args[i] (List.getElem?_eq_getElem hi)
      rw [List.getElem?_eq_getElem hi]
      have hv' : (⟨vs⟩ : Array Value)[i]? = some v := by simpa using hv
      rw [hv']
      simp only [Option.getD_some]
      have hcl : ungrd [] args[i] = args[i] := by
        have h3 := congrArg (fun l => l[i]?) hargs
        simp only [List.getElem?_map] at h3
        rw [List.getElem?_append_left hi, List.getElem?_eq_getElem hi] at h3
        exact Option.some.inj h3
      generalize args[i] = y at hr hcl ⊢
      cases y
      case grd => simp [ungrd] at hcl
      all_goals exact hr
    · rw [List.getElem?_append_right hi]
      have : (List.replicate (fn.ntmps - args.length) AV.unk)[i - args.length]?.getD AV.unk = AV.unk := by
        rw [List.getElem?_replicate]; split <;> rfl
      rw [this]
      simp [repS, rep]
  generalize ({ tmps := (⟨vs⟩ : Array Value) ++ Array.replicate (fn.ntmps - (⟨vs⟩ : Array Value).size) undef, defers := [] } : Act) = a0 at hT
  have hT' : SimT [] ρ M (yG (o :: ops).toArray a0) (args ++ List.replicate (fn.ntmps - args.length) .unk) a0 := by
    have := hT.clean (G' := yG (o :: ops).toArray a0)
    rwa [hargs] at this
  have main : ∀ (v : Value) (cs' : List Frame) (u' : FrameMode), cs' = { c₀ with mode := u' } :: cs → settle u' = .returning → rep ρ M noG rv v →
      wpOpsS E.P (o :: ops).toArray (Exit.thenS (rest.wpS E.P (bodyPostS E.P fn c₀ cs fun (e : Ending) u' w' => e = .returned (.tuple #[]) ∧ settle u' = .returning ∧ ∃ s ρ' M', Q1 s ∧ kept h.length ρ ρ' ∧ M.le M' ∧ SimH B w0 M0 s.h w' ρ' M'))
        (bodyPostS E.P fn c₀ cs fun (e : Ending) u' w' => e = .returned (.tuple #[]) ∧ settle u' = .returning ∧ ∃ s ρ' M', Q1 s ∧ kept h.length ρ ρ' ∧ M.le M' ∧ SimH B w0 M0 s.h w' ρ' M')) (List.range' 1 ops.length) (a0.put o.dst v) cs' w := by
    intro v cs' u' hcs hset hv
    refine runS_sound hK ops 1 _ _ w ρ M hrun (fun j o' hj => by rw [Nat.add_comm]; simpa using hj) H (hT'.put (Loc.le_refl _) (Mem.le_refl _) (by rw [← hrv]; exact repS_clean hv)) ?_
    intro a' w' ρ' M' l1 l2 H' T'
    show rest.wpS E.P _ a' cs' w'
    refine wpS_of_wp (wp_mono (htr [] B w0 M0 a' w' ρ' M' ⟨H', T'.clean⟩) ?_)
    rintro e a2 w2 ⟨s2, ρ2, M2, ⟨he, hq⟩, k1, k2, H2⟩
    have hpost : ∃ u', cs' = { c₀ with mode := u' } :: cs ∧ ∃ v, (results fn a2.tmps).run E.P w2 = .ok v w2 ∧ (fun (e : Ending) u' w' => e = .returned (.tuple #[]) ∧ settle u' = .returning ∧ ∃ s ρ' M', Q1 s ∧ kept h.length ρ ρ' ∧ M.le M' ∧ SimH B w0 M0 s.h w' ρ' M') (.returned v) u' w2 := by
      refine ⟨u', hcs, .tuple #[], ?_, rfl, hset, s2, ρ2, M2, hq, (kept.of_le l1).trans k1, Mem.le_trans l2 k2, H2.h⟩
      unfold results
      rw [hres]
      simp
    rcases he with rfl | rfl
    · exact ⟨H2.t.defers, hpost⟩
    · exact ⟨H2.t.defers, hpost⟩
  refine wpS_seq (wpS_region ?_)
  have hsz : List.range ((o :: ops).toArray.size) = 0 :: List.range' 1 ops.length := by
    rw [List.range_eq_range']
    simp only [List.size_toArray, List.length_cons, List.range'_succ, Nat.zero_add]
  rw [hsz]
  rcases hu with ⟨rfl, rfl⟩ | ⟨v, rfl, hv⟩
  · refine wpOpsS_none (o := o) (by simp) hg (hrec _ _) (by simp [recoverD, hm]) (main .nilIface (c₀ :: cs) .returning (by rw [← hm]) rfl (by simp [rep]))
  · refine wpOpsS_some (o := o) (v := v) (cs' := { c₀ with mode := .panicking [{ v, recovered := true }] } :: cs) (by simp) hg (hrec _ _) (by simp [recoverD, hm]) (main v _ _ rfl (by simp [settle]) (hv ρ M))
end Go.Eng
