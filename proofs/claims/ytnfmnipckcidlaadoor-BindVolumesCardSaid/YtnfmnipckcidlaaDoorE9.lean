/- The engine, part 8: a region in the order of the text. -/
import Derived.Test.YtnfmnipckcidlaaDoorE8
set_option linter.unusedVariables false
set_option linter.unusedSimpArgs false
namespace Go.Eng
open Go.RowKit (Below)
variable {D : List Deferred}

mutual
/-- Objects by other numbers. -/
def ren (σ : Nat → Nat) : AV → AV
  | .ptr id off => .ptr (σ id) off
  | .evp id e i off => .evp (σ id) e i off
  | .vec id => .vec (σ id)
  | .vsub id e lo hi => .vsub (σ id) e lo hi
  | .map id => .map (σ id)
  | .yld id => .yld (σ id)
  | .agg cs => .agg (renL σ cs)
  | .tup cs => .tup (renL σ cs)
  | .fn f cs => .fn f (renL σ cs)
  | .iface t x => .iface t (ren σ x)
  | x => x
def renL (σ : Nat → Nat) : List AV → List AV
  | [] => []
  | x :: xs => ren σ x :: renL σ xs
end
def renO (σ : Nat → Nat) : AObj → AObj
  | .cells t cs => .cells t (renL σ cs)
  | .loop n t pd => .loop n (renL σ t) pd
  | o => o
/-- A renaming, as a list. -/
def sgm (σ : List Nat) (j : Nat) : Nat := σ.getD j j
def likeT : List AV → List AV → List AV
  | p :: ps, x :: xs => (match p with | .unk => .unk | _ => x) :: likeT ps xs
  | [], xs => xs
  | _ :: _, [] => []
def renT (σ : Nat → Nat) : List AV → List AV
  | [] => []
  | x :: xs => ren σ x :: renT σ xs
/-- The pattern p, by the numbers of the state that it is held against. -/
def push (σ : List Nat) (p : St) : St := ⟨renT (sgm σ) p.t, p.h.map (renO (sgm σ))⟩
def pullH (σ : List Nat) (h : List AObj) : Nat → List AObj → List AObj
  | _, [] => []
  | j, o :: os => (match o with | .dead => .dead | _ => hget h (sgm σ j)) :: pullH σ h (j + 1) os
/-- What the pattern p speaks of, out of s. -/
def pull (σ : List Nat) (p s : St) : St := ⟨likeT p.t s.t, pullH σ s.h 0 p.h⟩
/-- What becomes of a piece of code, test by test. -/
inductive Tree where
  | leaf (e : Exit) (s : St)
  | ask (b : Bool) (t f : Tree)
  | need (p : List Prop) (t : Tree)
  | same (p : St) (σ : List Nat) (s : St) (t : Tree)
  | fail
def Tree.bind : Tree → (Exit → St → Tree) → Tree
  | .leaf e s, k => k e s
  | .ask b t f, k => .ask b (t.bind k) (f.bind k)
  | .need p t, k => .need p (t.bind k)
  | .same p σ s t, k => .same p σ s (t.bind k)
  | .fail, _ => .fail
def Tree.All (Q : Exit → St → Prop) : Tree → Prop
  | .leaf e s => Q e s
  | .ask b t f => (b = true → t.All Q) ∧ (b = false → f.All Q)
  | .need p t => (∀ q ∈ p, q) ∧ t.All Q
  | .same p σ s t => pull σ p s = push σ p ∧ t.All Q
  | .fail => False
theorem Tree.All_mono {Q Q' : Exit → St → Prop} (h : ∀ e s, Q e s → Q' e s) : ∀ {T : Tree}, T.All Q → T.All Q'
  | .leaf e s, hh => h e s hh
  | .ask _ _ _, hh => ⟨fun hb => Tree.All_mono h (hh.1 hb), fun hb => Tree.All_mono h (hh.2 hb)⟩
  | .need _ _, hh => ⟨hh.1, Tree.All_mono h hh.2⟩
  | .same _ _ _ _, hh => ⟨hh.1, Tree.All_mono h hh.2⟩
  | .fail, hh => hh
theorem Tree.All_bind {Q : Exit → St → Prop} {k : Exit → St → Tree} : ∀ {T : Tree}, (T.bind k).All Q → T.All fun e s => (k e s).All Q
  | .leaf _ _, h => h
  | .ask _ _ _, h => ⟨fun hb => Tree.All_bind (h.1 hb), fun hb => Tree.All_bind (h.2 hb)⟩
  | .need _ _, h => ⟨h.1, Tree.All_bind h.2⟩
  | .same _ _ _ _, h => ⟨h.1, Tree.All_bind h.2⟩
  | .fail, h => h


/-- What a slot holds: of an operation that was passed over nothing. -/
def repS (ρ : Loc) (M : Mem) (G : Nat → Bool → Prop) : AV → Value → Prop
  | .grd j w x, v => (G j w ∧ rep ρ M noG x v) ∨ (¬ G j w ∧ v = undef)
  | x, v => rep ρ M noG x v
theorem repS_mono {ρ ρ' : Loc} {M M' : Mem} {G : Nat → Bool → Prop} (hρ : ρ.le ρ') (hM : M.le M') {x : AV} {v : Value} (h : repS ρ M G x v) : repS ρ' M' G x v := by
  cases x <;> simp only [repS] at h ⊢ <;> first
    | exact rep_mono hρ hM (fun _ _ h => h) _ _ h
    | exact h.imp (fun h => ⟨h.1, rep_mono hρ hM (fun _ _ h => h) _ _ h.2⟩) id

def ungrd (tags : List (Nat × Bool)) : AV → AV
  | .grd j w x => if tags.contains (j, w) then x else .unk
  | x => x
theorem rep_ungrd {ρ : Loc} {M : Mem} {G : Nat → Bool → Prop} {tags : List (Nat × Bool)} (ht : ∀ j w, (j, w) ∈ tags → G j w) {x : AV} {v : Value} (h : repS ρ M G x v) : rep ρ M noG (ungrd tags x) v := by
  cases x
  case grd j w x =>
    simp only [ungrd]
    split
    · rename_i hc
      rcases h with h | h
      · exact h.2
      · exact absurd (ht j w (by simpa using hc)) h.1
    · simp [rep]
  all_goals exact h
/-- A slot is written: what hung on a guard that lies there is no longer known. -/
def kill (ops : List Oper) (d : Nat) : AV → AV
  | .grd j w x => if (ops[j]?).bind (·.dst) == some d then .unk else .grd j w x
  | x => x
def putS (ops : List Oper) (t : List AV) (dst : Option Tmp) (x : AV) : List AV :=
  match dst with
  | none => t
  | some d => (t.map (kill ops d)).set d x
/-- What holds where the guard (j, w) lets by. -/
def tagsOf (ops : List Oper) (t : List AV) : Nat → Nat × Bool → List (Nat × Bool)
  | 0, g => [g]
  | n + 1, (j, w) => (j, w) :: match (ops[j]?).bind (·.dst) with
    | some d => match t.getD d .unk with
      | .grd j2 w2 _ => tagsOf ops t n (j2, w2)
      | _ => []
    | none => []
def condP (ops : List Oper) (t : List AV) : Nat → Nat × Bool → Prop
  | 0, _ => True
  | n + 1, (j, w) => match (ops[j]?).bind (·.dst) with
    | some d => match t.getD d .unk with
      | .bool b => b = w
      | .grd j2 w2 (.bool b) => condP ops t n (j2, w2) ∧ b = w
      | _ => True
    | none => True

/-- The operations that write slot d: their numbers. -/
def writers (ops : List Oper) (d : Nat) (w : Bool) : List (Nat × Bool) := (ops.zipIdx.filter fun o => o.1.dst == some d).map fun o => (o.2, w)
/-- What is known of the guard in slot d. -/
def decided (ops : List Oper) (tags : List (Nat × Bool)) (d : Nat) : Option Bool := (tags.find? fun g => (ops[g.1]?).bind (·.dst) == some d).map (·.2)
def evPick (ops : List Oper) (t : List AV) (tags : List (Nat × Bool)) (c x y : Operand) : Option AV :=
  match c with
  | .tmp d => match decided ops tags d with
    | some v => some (ungrd tags (opd t (if v then x else y)))
    | none => match ungrd tags (t.getD d .unk) with
      | .bool b => match ungrd (writers ops d true ++ tags) (opd t x), ungrd (writers ops d false ++ tags) (opd t y) with
        | .bool p, .bool q => some (.bool (cond b p q))
        | _, _ => none
      | _ => none
  | _ => none
def isPick : Op → Option (Operand × Operand × Operand)
  | .pick c x y => some (c, x, y)
  | _ => none
def stepR (E : Env) (ops : List Oper) (dt : List (Nat × Bool)) (o : Oper) (s : St) : Option (List Prop × St) :=
  match o.guard with
  | none => match isPick o.op with
    | some (c, x, y) => match evPick ops s.t dt c x y with
      | some z => some ([], ⟨putS ops s.t o.dst (ungrd [] z), s.h⟩)
      | none => none
    | none => match evOp E (s.t.map (ungrd dt)) s.h s.h.length o with
      | some (x, effs, need) => some (need, ⟨putS ops s.t o.dst (ungrd [] x), applyEff s.h effs⟩)
      | none => none
  | some g => if (ops[g.1]?).bind (·.dst) == o.dst then none else match isPick o.op with
    | some (c, x, y) => match evPick ops s.t (tagsOf ops s.t 8 g ++ dt) c x y with
      | some z => some ([], ⟨putS ops s.t o.dst (.grd g.1 g.2 z), s.h⟩)
      | none => none
    | none => match evOp E (s.t.map (ungrd (tagsOf ops s.t 8 g ++ dt))) s.h s.h.length o with
      | some (x, [], need) => some (need.map fun p => (condP ops s.t 8 g → p), ⟨putS ops s.t o.dst (.grd g.1 g.2 x), s.h⟩)
      | _ => none
/-- The function that is called, at what. -/
def callOf (dt : List (Nat × Bool)) (o : Oper) (s : St) : Option (FuncId × List AV) :=
  match o.op with
  | .call c => match c.callee with
    | .value f => match ungrd dt (opd s.t f) with
      | .fn g cap => some (g, (c.args.toList.map fun x => coerce s.h (ungrd dt (opd s.t x))) ++ cap)
      | _ => none
    | _ => none
  | _ => none
/-- Calls that come back in more ways than one. -/
inductive Branch where
  | may (b : Bool) (pv : Value)
  | two (b : Bool) (x y : Out)
def branchy (E : Env) (dt : List (Nat × Bool)) (o : Oper) (s : St) : Option Branch :=
  match callOf dt o s with
  | some (g, args) => match E.KP g args with
    | some (b, pv) => some (.may b pv)
    | none => match E.KB g args s.h s.h.length with
      | some (b, x, y) => some (.two b x y)
      | none => none
  | none => none
def needs : List Prop → Tree → Tree
  | [], t => t
  | p :: ps, t => .need (p :: ps) t
theorem needs_all {ps : List Prop} {t : Tree} {Q : Exit → St → Prop} (h : (needs ps t).All Q) : (∀ p ∈ ps, p) ∧ t.All Q := by
  cases ps with
  | nil => exact ⟨by simp, h⟩
  | cons p ps => exact h
def afterCall (ops : List Oper) (o : Oper) (s : St) (x : Out) : St := ⟨putS ops s.t o.dst (ungrd [] x.1), applyEff s.h x.2.1⟩
/-- A call of yield: what is known of the round. -/
def yieldy (E : Env) (dt : List (Nat × Bool)) (o : Oper) (s : St) : Option YB :=
  match o.op with
  | .call c => match c.callee with
    | .value f => match ungrd dt (opd s.t f) with
      | .yld id => E.Y (.yld id :: c.args.toList.map fun x => coerce s.h (ungrd dt (opd s.t x))) s.h s.h.length
      | _ => none
    | _ => none
  | _ => none
/-- An operation that is done, and what follows. -/
def runU (E : Env) (ops : List Oper) (dt : List (Nat × Bool)) (o : Oper) (s : St) (k : St → Tree) : Tree :=
  match branchy E dt o s with
  | some (.may b pv) => .ask b (k ⟨putS ops s.t o.dst (.tup []), s.h⟩) (.leaf (.panic [{ v := pv, recovered := false }]) s)
  | some (.two b x y) => .ask b (needs x.2.2 (k (afterCall ops o s x))) (needs y.2.2 (k (afterCall ops o s y)))
  | none => match yieldy E dt o s with
    | some (.one x) => needs x.2.2 (k (afterCall ops o s x))
    | some (.two b x y) => .ask b (needs x.2.2 (k (afterCall ops o s x))) (needs y.2.2 (k (afterCall ops o s y)))
    | none => match stepR E ops dt { o with guard := none } s with
      | some (ps, s') => needs ps (k s')
      | none => .fail
/-- What has been told of guards, behind a write of slot d. -/
def keepDt (ops : List Oper) (d : Option Tmp) (dt : List (Nat × Bool)) : List (Nat × Bool) := dt.filter fun g => !((ops[g.1]?).bind (·.dst) == d)
def skipU (ops : List Oper) (o : Oper) (s : St) : St := ⟨putS ops s.t o.dst .unk, s.h⟩
def slotB (ops : List Oper) (t : List AV) (j : Nat) : Option Bool :=
  match (ops[j]?).bind (·.dst) with
  | some d => match t.getD d .unk with
    | .bool b => some b
    | _ => none
  | none => none
def evSeq (E : Env) (ops : List Oper) : List (Nat × Bool) → List Oper → St → Tree
  | _, [], s => .leaf .normal s
  | dt, o :: rest, s => match o.guard with
    | none => runU E ops dt o s (evSeq E ops (keepDt ops o.dst dt) rest)
    | some (j, w) => match dt.lookup j with
      | some v => if v == w then runU E ops dt o s (evSeq E ops (keepDt ops o.dst dt) rest) else evSeq E ops (keepDt ops o.dst dt) rest (skipU ops o s)
      | none => match stepR E ops dt o s with
        | some (ps, s') => needs ps (evSeq E ops (keepDt ops o.dst dt) rest s')
        | none => match slotB ops s.t j with
          | some b => if w then .ask b (runU E ops ((j, true) :: dt) o s (evSeq E ops (keepDt ops o.dst ((j, true) :: dt)) rest)) (evSeq E ops (keepDt ops o.dst ((j, false) :: dt)) rest (skipU ops o s))
              else .ask b (evSeq E ops (keepDt ops o.dst ((j, true) :: dt)) rest (skipU ops o s)) (runU E ops ((j, false) :: dt) o s (evSeq E ops (keepDt ops o.dst ((j, false) :: dt)) rest))
          | none => .fail

/-- The slots. -/
structure SimT (D : List Deferred) (ρ : Loc) (M : Mem) (G : Nat → Bool → Prop) (t : List AV) (a : Act) : Prop where
  len : t.length = a.tmps.size
  defers : a.defers = D
  at_ : ∀ i, repS ρ M G (t.getD i .unk) (a.tmps.getD i undef)
abbrev yG (ops : Array Oper) (a : Act) : Nat → Bool → Prop := fun j w => yielded ops a.tmps j = some w

theorem getD_put (a : Act) (d : Nat) (v : Value) (i : Nat) : (a.put (some d) v).tmps.getD i undef = if d = i ∧ d < a.tmps.size then v else a.tmps.getD i undef := by
  simp only [Act.put, Array.getD_eq_getD_getElem?, Array.getElem?_setIfInBounds]
  by_cases h : d = i
  · subst h
    by_cases h2 : d < a.tmps.size
    · simp [h2]
    · simp [h2]
  · simp [h]
theorem yielded_put {ops : Array Oper} {a : Act} {d : Nat} {v : Value} {j : Nat} (h : (ops[j]?).bind (·.dst) ≠ some d) : yielded ops (a.put (some d) v).tmps j = yielded ops a.tmps j := by
  unfold yielded
  cases hd : (ops[j]?).bind (·.dst) with
  | none => rfl
  | some e =>
    have hne : d ≠ e := fun he => h (by rw [hd, he])
    simp [Act.put, Array.getElem?_setIfInBounds_ne hne]
theorem map_getD (f : AV → AV) (hf : f .unk = .unk) (t : List AV) (i : Nat) : (t.map f).getD i .unk = f (t.getD i .unk) := by
  simp only [List.getD_eq_getElem?_getD, List.getElem?_map]
  cases t[i]? <;> simp [hf]
theorem set_getD (t : List AV) (d : Nat) (x : AV) (i : Nat) : (t.set d x).getD i .unk = if d = i ∧ d < t.length then x else t.getD i .unk := by
  simp only [List.getD_eq_getElem?_getD, List.getElem?_set]
  by_cases h : d = i
  · subst h
    by_cases h2 : d < t.length
    · simp [h2]
    · simp [h2]
  · simp [h]

theorem SimT.put {ρ ρ' : Loc} {M M' : Mem} {ops : List Oper} {t : List AV} {a : Act} (H : SimT D ρ M (yG ops.toArray a) t a) (hρ : ρ.le ρ') (hM : M.le M') {dst : Option Tmp} {x : AV} {v : Value}
    (hx : repS ρ' M' (yG ops.toArray (a.put dst v)) x v) : SimT D ρ' M' (yG ops.toArray (a.put dst v)) (putS ops t dst x) (a.put dst v) := by
  cases dst with
  | none => exact ⟨H.len, H.defers, fun i => repS_mono hρ hM (H.at_ i)⟩
  | some d =>
    refine ⟨by simp [putS, Act.put, H.len], H.defers, fun i => ?_⟩
    simp only [putS]
    rw [set_getD, getD_put, List.length_map, H.len]
    split
    · exact hx
    · rw [map_getD _ rfl]
      have := repS_mono hρ hM (H.at_ i)
      generalize t.getD i .unk = y at this ⊢
      cases y
      case grd j w y =>
        simp only [kill]
        split
        · simp [repS, rep]
        · rename_i hne
          have hy : yielded ops.toArray (a.put (some d) v).tmps j = yielded ops.toArray a.tmps j := yielded_put (by simpa using hne)
          simp only [repS, yG, hy] at this ⊢
          exact this
      all_goals exact this

section
variable {ρ : Loc} {M : Mem} {ops : List Oper} {t : List AV} {a : Act}
theorem yielded_slot {j : Nat} {w : Bool} (h : yielded ops.toArray a.tmps j = some w) : ∃ d, (ops[j]?).bind (·.dst) = some d ∧ a.tmps.getD d undef = .bool w := by
  unfold yielded at h
  cases hd : ((ops.toArray)[j]?).bind (·.dst) with
  | none => rw [hd] at h; cases h
  | some d =>
    rw [hd] at h
    refine ⟨d, by simpa using hd, ?_⟩
    simp only [Option.bind_some] at h
    rw [Array.getD_eq_getD_getElem?]
    cases hv : a.tmps[d]? with
    | none => rw [hv] at h; cases h
    | some v =>
      rw [hv] at h
      cases v <;> simp at h
      subst h
      rfl
theorem tagsOf_hold (H : SimT D ρ M (yG ops.toArray a) t a) : ∀ (n : Nat) (g : Nat × Bool), yG ops.toArray a g.1 g.2 → ∀ j w, (j, w) ∈ tagsOf ops t n g → yG ops.toArray a j w
  | 0, g, hg, j, w, hm => by simp only [tagsOf, List.mem_singleton] at hm; subst hm; exact hg
  | n + 1, (j0, w0), hg, j, w, hm => by
    simp only [tagsOf, List.mem_cons] at hm
    rcases hm with hm | hm
    · injection hm with h1 h2; subst h1; subst h2; exact hg
    · obtain ⟨d, hd, hv⟩ := yielded_slot hg
      rw [hd] at hm
      simp only [] at hm
      have := H.at_ d
      rw [hv] at this
      split at hm
      · rename_i j2 w2 y hs
        rw [hs] at this
        rcases this with h | h
        · exact tagsOf_hold H n (j2, w2) h.1 j w hm
        · exact absurd h.2 (by simp [undef])
      · cases hm
theorem condP_hold (H : SimT D ρ M (yG ops.toArray a) t a) : ∀ (n : Nat) (g : Nat × Bool), yG ops.toArray a g.1 g.2 → condP ops t n g
  | 0, _, _ => trivial
  | n + 1, (j0, w0), hg => by
    obtain ⟨d, hd, hv⟩ := yielded_slot hg
    simp only [condP, hd]
    have := H.at_ d
    rw [hv] at this
    split
    · rename_i b hs
      rw [hs] at this
      simp only [repS, rep] at this
      injection this with this
      exact this.symm
    · rename_i j2 w2 b hs
      rw [hs] at this
      rcases this with h | h
      · simp only [rep] at h
        have h2 := h.2
        injection h2 with h2
        exact ⟨condP_hold H n (j2, w2) h.1, h2.symm⟩
      · exact absurd h.2 (by simp [undef])
    · trivial
theorem writers_hold {d : Nat} {w : Bool} (hv : a.tmps.getD d undef = .bool w) : ∀ j w', (j, w') ∈ writers ops d w → yG ops.toArray a j w' := by
  intro j w' hm
  unfold writers at hm
  obtain ⟨⟨o, k⟩, ho, he⟩ := List.mem_map.1 hm
  simp only [Prod.mk.injEq] at he
  obtain ⟨rfl, rfl⟩ := he
  obtain ⟨hz, hdst⟩ := List.mem_filter.1 ho
  have hk : ops[k]? = some o := by
    have := List.mem_zipIdx_iff_getElem?.1 hz
    simpa using this
  show yielded ops.toArray a.tmps k = some w
  unfold yielded
  have hdst' : o.dst = some d := by simpa using hdst
  have : (ops.toArray[k]?).bind (·.dst) = some d := by simp [hk, hdst']
  rw [this]
  simp only [Option.bind_some]
  rw [Array.getD_eq_getD_getElem?] at hv
  cases hx : a.tmps[d]? with
  | none => rw [hx] at hv; simp [undef] at hv
  | some v => rw [hx] at hv; simp at hv; subst hv; rfl
theorem rep_opdS (H : SimT D ρ M (yG ops.toArray a) t a) {tags : List (Nat × Bool)} (ht : ∀ j w, (j, w) ∈ tags → yG ops.toArray a j w) (x : Operand) : rep ρ M noG (ungrd tags (opd t x)) (a.eval x) := by
  cases x with
  | tmp i => exact rep_ungrd ht (H.at_ i)
  | const v =>
    have := rep_avOf ρ M noG v
    simp only [opd, Act.eval]
    cases hx : avOf v <;> rw [hx] at this <;> simp only [ungrd] <;> first | exact this | skip
    unfold avOf av1 at hx
    repeat' split at hx
    all_goals cases hx
  | global g => simp [opd, ungrd, rep]
  | func f => simp only [opd, ungrd, rep, Act.eval]; exact ⟨[], rfl, by simp [repL]⟩
theorem evPick_run (H : SimT D ρ M (yG ops.toArray a) t a) {tags : List (Nat × Bool)} (ht : ∀ j w, (j, w) ∈ tags → yG ops.toArray a j w) {c x y : Operand} {z : AV} (he : evPick ops t tags c x y = some z) :
    ∃ b, a.eval c = .bool b ∧ rep ρ M noG z (if b then a.eval x else a.eval y) := by
  unfold evPick at he
  split at he
  · rename_i d
    split at he
    · rename_i v hv
      injection he with he
      subst he
      unfold decided at hv
      cases hf : tags.find? (fun g => (ops[g.1]?).bind (·.dst) == some d) with
      | none => rw [hf] at hv; cases hv
      | some g =>
        rw [hf] at hv
        simp only [Option.map_some, Option.some.injEq] at hv
        subst hv
        obtain ⟨d', hd', hval⟩ := yielded_slot (ht g.1 g.2 (List.mem_of_find?_eq_some hf))
        have hd := List.find?_some hf
        simp only [beq_iff_eq] at hd
        rw [hd] at hd'
        injection hd' with hd'
        subst hd'
        refine ⟨g.2, hval, ?_⟩
        cases g.2 with
        | true => simpa using rep_opdS H ht x
        | false => simpa using rep_opdS H ht y
    split at he
    · rename_i b hb
      have hc : a.tmps.getD d undef = .bool b := by
        have := rep_ungrd ht (H.at_ d)
        rw [hb] at this
        simpa [rep] using this
      split at he
      · rename_i p q hp hq
        injection he with he
        subst he
        cases b with
        | true =>
          have := rep_opdS (tags := writers ops d true ++ tags) H (fun j w hm => by
            rcases List.mem_append.1 hm with h | h
            · exact writers_hold hc j w h
            · exact ht j w h) x
          rw [hp] at this
          exact ⟨true, hc, this⟩
        | false =>
          have := rep_opdS (tags := writers ops d false ++ tags) H (fun j w hm => by
            rcases List.mem_append.1 hm with h | h
            · exact writers_hold hc j w h
            · exact ht j w h) y
          rw [hq] at this
          exact ⟨false, hc, this⟩
      · cases he
    · cases he
  · cases he
end

theorem isPick_inv {op : Op} {c x y : Operand} (h : isPick op = some (c, x, y)) : op = .pick c x y := by
  unfold isPick at h
  split at h
  · simp only [Option.some.injEq, Prod.mk.injEq] at h
    obtain ⟨rfl, rfl, rfl⟩ := h
    rfl
  · cases h
theorem repS_clean {ρ : Loc} {M : Mem} {G : Nat → Bool → Prop} {x : AV} {v : Value} (h : rep ρ M noG x v) : repS ρ M G (ungrd [] x) v := by
  cases x
  case grd => simp [ungrd, repS, rep]
  all_goals exact h
theorem pick_exec {a : Act} {o : Oper} {c x y : Operand} (ho : o.op = .pick c x y) {b : Bool} (hc : a.eval c = .bool b) (P : Program) (w : World) : (execOp a.eval o).run P w = .ok (.value (if b then a.eval x else a.eval y)) w := by
  obtain ⟨dst, op, ty, pos, after, guard⟩ := o
  simp only at ho
  subst ho
  simp only [execOp, hc, asBool, Sem.run_bind, Sem.run_pure, Result.andThen_ok]
theorem putS_map (ops : List Oper) (t : List AV) (dst : Option Tmp) (x : AV) : (putS ops t dst x).length = t.length := by
  cases dst <;> simp [putS]

/-- The fence that lets all by, in a function's frame or in a round's. -/
abbrev wR (ro : Option Nat) : Fence := { Fence.wide with round := ro }
theorem evOp_notDefer {E : Env} {t : List AV} {h : List AObj} {nid : Nat} {o : Oper} {r : Out} (he : evOp E t h nid o = some r) (c : Call) : o.op ≠ .defer c := by
  intro hc
  unfold evOp at he
  rw [hc] at he
  cases he
theorem wpIn_of {ro : Option Nat} {P : Program} {o : Oper} {a : Act} {w : World} {next : Act → World → Prop} {Q : Exit → Act → World → Prop} (hd : ∀ c, o.op ≠ .defer c) (hh : o.wp P a w next Q) : o.wpIn (wR ro) 0 P a w next Q := by
  refine ⟨fun _ _ => trivial, ?_⟩
  rw [show o.semAt (wR ro).round a.eval = execOp a.eval o from Oper.semAt_eq ro a.eval o hd]
  unfold Oper.wp at hh
  generalize (execOp a.eval o).run P w = r at hh ⊢
  cases r with
  | ok x w' =>
    cases x <;> simp only [Oper.upon] at hh <;> simp only [Oper.uponIn] <;> first
      | exact hh
      | exact hh.elim
      | exact ⟨fun h => by simp [Fence.wide] at h, callsIn_wide.2 hh⟩
      | exact ⟨fun h => by simp [Fence.wide] at h, fun c cs _ => let ⟨v, w'', r, s⟩ := hh c cs; ⟨v, w'', r, stepsIn_wide.2 s⟩⟩
  | halt x w' => cases x <;> simp only [Oper.upon] at hh <;> simp only [Oper.uponIn] <;> exact hh
theorem wpListIn_stepR {ro : Option Nat} {P : Program} {ops : Array Oper} {Q : Exit → Act → World → Prop} {a : Act} {w : World} {rest : List Oper} {o : Oper}
    (h : ∀ K : Act → World → Prop, (∀ a w, wpListIn (wR ro) 0 P ops Q rest a w → K a w) → if Region.wanted o (yielded ops a.tmps) then o.wpIn (wR ro) 0 P a w K Q else K (a.put o.dst undef) w) : wpListIn (wR ro) 0 P ops Q (o :: rest) a w := by
  refine wpListIn_step fun K hK => ?_
  have := h K hK
  split
  · rename_i hw; rw [if_pos hw] at this; exact this
  · rename_i hw; rw [if_neg hw] at this; exact ⟨fun _ _ => trivial, this⟩
theorem isPick_notDefer {op : Op} {c x y : Operand} (h : isPick op = some (c, x, y)) (d : Call) : op ≠ .defer d := by
  intro e; subst e; cases h

section
variable {E : Env} {B : Nat → Prop} {w0 w : World} {M0 M : Mem} {ρ : Loc} {a : Act} {ops : List Oper} {ro : Option Nat}
theorem stepR_sound (hK : KOk E) {o : Oper} {s s' : St} {p : List Prop} {dt : List (Nat × Bool)} (hdt : ∀ j w, (j, w) ∈ dt → yG ops.toArray a j w) (he : stepR E ops dt o s = some (p, s')) (hp : ∀ q ∈ p, q) (H : SimH B w0 M0 s.h w ρ M) (T : SimT D ρ M (yG ops.toArray a) s.t a)
    (next : Act → World → Prop) (Q : Exit → Act → World → Prop) (hnext : ∀ v w' ρ' M', ρ.le ρ' → M.le M' → SimH B w0 M0 s'.h w' ρ' M' → SimT D ρ' M' (yG ops.toArray (a.put o.dst v)) s'.t (a.put o.dst v) → next (a.put o.dst v) w') :
    if Region.wanted o (yielded ops.toArray a.tmps) then o.wpIn (wR ro) 0 E.P a w next Q else next (a.put o.dst undef) w := by
  have htl : ∀ tags : List (Nat × Bool), (∀ j w, (j, w) ∈ tags → yG ops.toArray a j w) → ∀ i, rep ρ M noG ((s.t.map (ungrd tags)).getD i .unk) (a.eval (.tmp i)) := by
    intro tags ht i
    rw [map_getD _ rfl]
    exact rep_ungrd ht (T.at_ i)
  unfold stepR at he
  split at he
  · -- no guard
    rename_i hg
    have hw : Region.wanted o (yielded ops.toArray a.tmps) = true := by simp [Region.wanted, hg]
    rw [if_pos hw]
    split at he
    · rename_i c x y hpick
      split at he
      · rename_i z hz
        simp only [Option.some.injEq, Prod.mk.injEq] at he
        obtain ⟨rfl, rfl⟩ := he
        obtain ⟨b, hc, hr⟩ := evPick_run T hdt hz
        refine wpIn_of (isPick_notDefer hpick) ?_
        unfold Oper.wp
        rw [pick_exec (isPick_inv hpick) hc]
        exact hnext _ w ρ M (Loc.le_refl _) (Mem.le_refl _) H (T.put (Loc.le_refl _) (Mem.le_refl _) (repS_clean hr))
      · cases he
    · split at he
      · rename_i x effs need hev
        simp only [Option.some.injEq, Prod.mk.injEq] at he
        obtain ⟨rfl, rfl⟩ := he
        refine wpIn_of (evOp_notDefer hev) (evOp_sound hK hev hp H (fun _ _ => rfl) (fun q _ hq => H.fresh _ hq) (htl dt hdt) next Q ?_)
        intro v w' ρ' M' h1 h2 h3 h4
        exact hnext _ w' ρ' M' h1.1 h2 h3 (T.put h1.1 h2 (repS_clean h4))
      · cases he
  · -- a guard
    rename_i g hg
    split at he
    · cases he
    · rename_i hdst
      have hG : ∀ v, yG ops.toArray (a.put o.dst v) g.1 g.2 ↔ yG ops.toArray a g.1 g.2 := by
        intro v
        cases hd : o.dst with
        | none => exact Iff.rfl
        | some d =>
          have : (ops.toArray[g.1]?).bind (·.dst) ≠ some d := by rw [hd] at hdst; simpa using hdst
          simp only [yG, yielded_put this]
      by_cases hwant : yG ops.toArray a g.1 g.2
      · have hw : Region.wanted o (yielded ops.toArray a.tmps) = true := by
          simp only [Region.wanted, hg]
          simpa [yG] using hwant
        rw [if_pos hw]
        have htags : ∀ j w, (j, w) ∈ tagsOf ops s.t 8 g ++ dt → yG ops.toArray a j w := fun j w hm => (List.mem_append.1 hm).elim (tagsOf_hold T 8 g hwant j w) (hdt j w)
        split at he
        · rename_i c x y hpick
          split at he
          · rename_i z hz
            simp only [Option.some.injEq, Prod.mk.injEq] at he
            obtain ⟨rfl, rfl⟩ := he
            obtain ⟨b, hc, hr⟩ := evPick_run T htags hz
            refine wpIn_of (isPick_notDefer hpick) ?_
            unfold Oper.wp
            rw [pick_exec (isPick_inv hpick) hc]
            exact hnext _ w ρ M (Loc.le_refl _) (Mem.le_refl _) H (T.put (Loc.le_refl _) (Mem.le_refl _) (.inl ⟨(hG _).2 hwant, hr⟩))
          · cases he
        · split at he
          · rename_i x need hev
            simp only [Option.some.injEq, Prod.mk.injEq] at he
            obtain ⟨rfl, rfl⟩ := he
            refine wpIn_of (evOp_notDefer hev) (evOp_sound hK hev (fun q hq => hp _ (List.mem_map_of_mem hq) (condP_hold T 8 g hwant)) H (fun _ _ => rfl) (fun q _ hq => H.fresh _ hq) (htl _ htags) next Q ?_)
            intro v w' ρ' M' h1 h2 h3 h4
            exact hnext _ w' ρ' M' h1.1 h2 h3 (T.put h1.1 h2 (.inl ⟨(hG _).2 hwant, h4⟩))
          · cases he
      · have hw : ¬ Region.wanted o (yielded ops.toArray a.tmps) = true := by
          simp only [Region.wanted, hg]
          simpa [yG] using hwant
        rw [if_neg hw]
        split at he
        · split at he
          · simp only [Option.some.injEq, Prod.mk.injEq] at he
            obtain ⟨rfl, rfl⟩ := he
            exact hnext _ w ρ M (Loc.le_refl _) (Mem.le_refl _) H (T.put (Loc.le_refl _) (Mem.le_refl _) (.inr ⟨fun h => hwant ((hG _).1 h), rfl⟩))
          · cases he
        · split at he
          · simp only [Option.some.injEq, Prod.mk.injEq] at he
            obtain ⟨rfl, rfl⟩ := he
            exact hnext _ w ρ M (Loc.le_refl _) (Mem.le_refl _) H (T.put (Loc.le_refl _) (Mem.le_refl _) (.inr ⟨fun h => hwant ((hG _).1 h), rfl⟩))
          · cases he

theorem stepR_next (hK : KOk E) {o : Oper} {s s' : St} {p : List Prop} {dt : List (Nat × Bool)} (hdt : ∀ j w, (j, w) ∈ dt → yG ops.toArray a j w) (he : stepR E ops dt { o with guard := none } s = some (p, s')) (hp : ∀ q ∈ p, q) (H : SimH B w0 M0 s.h w ρ M) (T : SimT D ρ M (yG ops.toArray a) s.t a)
    (next : Act → World → Prop) (Q : Exit → Act → World → Prop) (hnext : ∀ v w' ρ' M', ρ.le ρ' → M.le M' → SimH B w0 M0 s'.h w' ρ' M' → SimT D ρ' M' (yG ops.toArray (a.put o.dst v)) s'.t (a.put o.dst v) → next (a.put o.dst v) w') :
    ({ o with guard := none } : Oper).wpIn (wR ro) 0 E.P a w next Q := by
  have := stepR_sound (ro := ro) hK hdt he hp H T next Q hnext
  rwa [if_pos (by simp [Region.wanted])] at this
theorem lookup_mem {j : Nat} {v : Bool} : ∀ {l : List (Nat × Bool)}, l.lookup j = some v → (j, v) ∈ l
  | (k, u) :: l, h => by
    simp only [List.lookup] at h
    split at h
    · rename_i hk
      injection h with h
      subst h
      have : j = k := by simpa using hk
      subst this
      exact List.mem_cons_self
    · exact List.mem_cons_of_mem _ (lookup_mem h)
theorem slotB_hold {t : List AV} (T : SimT D ρ M (yG ops.toArray a) t a) {j : Nat} {b : Bool} (h : slotB ops t j = some b) : yG ops.toArray a j b := by
  unfold slotB at h
  split at h
  · rename_i d hd
    split at h
    · rename_i b' hb
      injection h with h
      subst h
      have := T.at_ d
      rw [hb] at this
      simp only [repS, rep] at this
      show yielded ops.toArray a.tmps j = some b'
      unfold yielded
      have hd' : (ops.toArray[j]?).bind (·.dst) = some d := by simpa using hd
      rw [hd']
      simp only [Option.bind_some]
      rw [Array.getD_eq_getD_getElem?] at this
      cases hx : a.tmps[d]? with
      | none => rw [hx] at this; simp [undef] at this
      | some v => rw [hx] at this; simp at this; subst this; rfl
    · cases h
  · cases h
theorem callOf_inv {dt : List (Nat × Bool)} {o : Oper} {s : St} {g : FuncId} {args : List AV} (h : callOf dt o s = some (g, args)) : ∃ c f cap, o.op = .call c ∧ c.callee = .value f ∧ ungrd dt (opd s.t f) = .fn g cap ∧
    args = (c.args.toList.map fun x => coerce s.h (ungrd dt (opd s.t x))) ++ cap := by
  unfold callOf at h
  split at h
  · rename_i c hop
    split at h
    · rename_i f hf
      split at h
      · rename_i g' cap hgc
        simp only [Option.some.injEq, Prod.mk.injEq] at h
        obtain ⟨rfl, rfl⟩ := h
        exact ⟨c, f, cap, hop, hf, hgc, rfl⟩
      · cases h
    · cases h
  · cases h
theorem branchy_inv {dt : List (Nat × Bool)} {o : Oper} {s : St} {r : Branch} (h : branchy E dt o s = some r) : ∃ g args, callOf dt o s = some (g, args) ∧ (match r with
    | .may b pv => E.KP g args = some (b, pv)
    | .two b x y => E.KB g args s.h s.h.length = some (b, x, y)) := by
  unfold branchy at h
  split at h
  · rename_i g args hc
    refine ⟨g, args, hc, ?_⟩
    split at h
    · rename_i b pv hk
      simp only [Option.some.injEq] at h
      subst h
      exact hk
    · split at h
      · rename_i b x y hk
        simp only [Option.some.injEq] at h
        subst h
        exact hk
      · cases h
  · cases h
theorem repL_opdS {t : List AV} {dt : List (Nat × Bool)} (hdt : ∀ j w, (j, w) ∈ dt → yG ops.toArray a j w) (T : SimT D ρ M (yG ops.toArray a) t a) : ∀ (xs : List Operand), repL ρ M noG (xs.map fun x => ungrd dt (opd t x)) (xs.map a.eval)
  | [] => by simp [repL]
  | x :: xs => by simp only [List.map_cons, repL]; exact ⟨rep_opdS T hdt x, repL_opdS hdt T xs⟩
theorem callOf_notDefer {dt : List (Nat × Bool)} {o : Oper} {s : St} {g : FuncId} {args : List AV} (h : callOf dt o s = some (g, args)) (d : Call) : o.op ≠ .defer d := by
  obtain ⟨c, _, _, hop, _⟩ := callOf_inv h
  rw [hop]; nofun
theorem yieldy_inv {dt : List (Nat × Bool)} {o : Oper} {s : St} {r : YB} (h : yieldy E dt o s = some r) : ∃ c f id, o.op = .call c ∧ c.callee = .value f ∧ ungrd dt (opd s.t f) = .yld id ∧
    E.Y (.yld id :: c.args.toList.map fun x => coerce s.h (ungrd dt (opd s.t x))) s.h s.h.length = some r := by
  unfold yieldy at h
  split at h
  · rename_i c hop
    split at h
    · rename_i f hf
      split at h
      · rename_i id hid
        exact ⟨c, f, id, hop, hf, hid, h⟩
      · cases h
    · cases h
  · cases h
/-- A call of yield is a round. -/
theorem yield_step {dt : List (Nat × Bool)} (hdt : ∀ j w, (j, w) ∈ dt → yG ops.toArray a j w) {s : St} {o : Oper} {c : Call} {f : Operand} {id : Nat} (hop : o.op = .call c) (hf : c.callee = .value f) (hid : ungrd dt (opd s.t f) = .yld id)
    {x : AV} {effs : Eff} (hY : YSound E.P (.yld id :: c.args.toList.map fun x => coerce s.h (ungrd dt (opd s.t x))) s.h s.h.length x effs) (H : SimH B w0 M0 s.h w ρ M) (T : SimT D ρ M (yG ops.toArray a) s.t a)
    (next : Act → World → Prop) (Q : Exit → Act → World → Prop) (hn : ∀ v w' ρ' M', ρ.only ρ' effs → M.le M' → SimH B w0 M0 (applyEff s.h effs) w' ρ' M' → rep ρ' M' noG x v → next (a.put o.dst v) w') : o.wpIn (wR ro) 0 E.P a w next Q := by
  have hfv := rep_opdS T hdt f
  rw [hid] at hfv
  obtain ⟨l, hl, hval⟩ := (by simpa only [rep] using hfv : ∃ r, ρ id = some (.blk r) ∧ a.eval f = .func (.yield r) #[] #[])
  have hargs := repL_coerce H (fun _ _ => rfl) (repL_opdS hdt T c.args.toList)
  rw [List.map_map] at hargs
  have hall : repL ρ M noG (.yld id :: c.args.toList.map fun x => coerce s.h (ungrd dt (opd s.t x))) (.func (.yield l) #[] #[] :: c.args.toList.map a.eval) := by
    simp only [repL, rep]
    exact ⟨⟨l, hl, rfl⟩, hargs⟩
  obtain ⟨fn, tmps, asg, body, hrun, hround⟩ := hY B w0 M0 s.h w ρ M l _ H (fun _ _ => rfl) (fun p _ hp => H.fresh _ hp) hall
  refine ⟨fun _ _ => trivial, ?_⟩
  rw [show o.semAt (wR ro).round a.eval = execOp a.eval o from Oper.semAt_eq ro a.eval o (fun d => by rw [hop]; nofun)]
  obtain ⟨dst, op, ty, pos, after, guard⟩ := o
  simp only at hop
  subst hop
  have hres : (resolve a.eval c ty).run E.P w = .ok { target := .fn (.yield l) #[], args := c.args.map a.eval } w := by
    simp only [resolve, hf, hval, Deferred.ofValue]
    simp
  have harr : (c.args.map a.eval : Array Value) = ⟨c.args.toList.map a.eval⟩ := by apply Array.ext'; simp
  have hex : (execOp a.eval { dst := dst, op := .call c, type := ty, pos := pos, after := after, guard := guard }).run E.P w = .ok (.round l fn tmps asg body) w := by
    simp only [execOp, Sem.run_bind, hres, Result.andThen_ok, invoke, harr]
    exact hrun
  rw [hex, Oper.uponIn_round]
  refine ⟨fun h => by simp [Fence.wide] at h, RoundIn.mono (R := _) hround fun e w' hpost => ?_⟩
  obtain ⟨v, ρ', M', rfl, h1, h2, h3, h4⟩ := hpost
  exact hn v w' ρ' M' h1 h2 h3 h4
/-- A call's run, its arguments. -/
theorem callOf_run {dt : List (Nat × Bool)} (hdt : ∀ j w, (j, w) ∈ dt → yG ops.toArray a j w) {s : St} {o : Oper} {g : FuncId} {args : List AV} (hc : callOf dt o s = some (g, args)) (H : SimH B w0 M0 s.h w ρ M) (T : SimT D ρ M (yG ops.toArray a) s.t a)
    (hent : ∀ (vs : Array Value) (w : World), (callFunc g vs).run E.P w = .ok (.enter g vs) w) :
    ∃ vs : List Value, repL ρ M noG args vs ∧ (execOp a.eval o).run E.P w = .ok (.enter g ⟨vs⟩) w := by
  obtain ⟨c, f, cap, hop, hf, hgc, rfl⟩ := callOf_inv hc
  have hfv := rep_opdS T hdt f
  rw [hgc] at hfv
  simp only [rep] at hfv
  obtain ⟨cvs, hval, hcvs⟩ := hfv
  refine ⟨c.args.toList.map a.eval ++ cvs, ?_, ?_⟩
  · have := repL_coerce H (fun _ _ => rfl) (repL_opdS hdt T c.args.toList)
    rw [List.map_map] at this
    exact repL_append this hcvs
  · obtain ⟨dst, op, ty, pos, after, guard⟩ := o
    simp only at hop
    subst hop
    have hres : (resolve a.eval c ty).run E.P w = .ok { target := .fn (.func g) ⟨cvs⟩, args := c.args.map a.eval } w := by
      simp only [resolve, hf, hval, Deferred.ofValue]
      simp
    have harr : (c.args.map a.eval ++ (⟨cvs⟩ : Array Value)) = ⟨c.args.toList.map a.eval ++ cvs⟩ := by apply Array.ext'; simp
    simp only [execOp, Sem.run_bind, hres, Result.andThen_ok, invoke, harr]
    exact hent _ _
theorem wp_noguard {P : Program} {o : Oper} {a : Act} {w : World} {next : Act → World → Prop} {Q : Exit → Act → World → Prop} (h : ({ o with guard := none } : Oper).wpIn (wR ro) 0 P a w next Q) : o.wpIn (wR ro) 0 P a w next Q := by
  obtain ⟨dst, op, ty, pos, after, guard⟩ := o
  exact h
theorem keepDt_hold {dt : List (Nat × Bool)} (hdt : ∀ j w, (j, w) ∈ dt → yG ops.toArray a j w) (d : Option Tmp) (v : Value) : ∀ j w, (j, w) ∈ keepDt ops d dt → yG ops.toArray (a.put d v) j w := by
  intro j w hm
  obtain ⟨h1, h2⟩ := List.mem_filter.1 hm
  have h3 := hdt j w h1
  cases d with
  | none => exact h3
  | some d =>
    show yielded ops.toArray (a.put (some d) v).tmps j = some w
    rw [yielded_put (by simpa using h2)]
    exact h3
/-- An operation that is done. -/
theorem runU_sound (hK : KOk E) {PQ : Exit → St → Prop} {Q : Exit → Act → World → Prop} {dt : List (Nat × Bool)} (hdt : ∀ j w, (j, w) ∈ dt → yG ops.toArray a j w) {o : Oper} {l : List Oper} {s : St} {k : St → Tree} (he : (runU E ops dt o s k).All PQ)
    (H : SimH B w0 M0 s.h w ρ M) (T : SimT D ρ M (yG ops.toArray a) s.t a) (hw : Region.wanted o (yielded ops.toArray a.tmps) = true)
    (hpan : ∀ b pv w' M', branchy E dt o s = some (.may b pv) → PQ (.panic [{ v := pv, recovered := false }]) s → M.le M' → SimH B w0 M0 s.h w' ρ M' → SimT D ρ M' (yG ops.toArray a) s.t a → Q (.panic [{ v := pv, recovered := false }]) a w')
    (hk : ∀ v s' w' ρ' M', (k s').All PQ → ρ.le ρ' → M.le M' → SimH B w0 M0 s'.h w' ρ' M' → SimT D ρ' M' (yG ops.toArray (a.put o.dst v)) s'.t (a.put o.dst v) → wpListIn (wR ro) 0 E.P ops.toArray Q l (a.put o.dst v) w') :
    wpListIn (wR ro) 0 E.P ops.toArray Q (o :: l) a w := by
  unfold runU at he
  split at he
  · rename_i b pv hpk
    obtain ⟨g, args, hcall, hkp⟩ := branchy_inv hpk
    simp only at hkp
    obtain ⟨vs, hargs, hexec⟩ := callOf_run (E := E) hdt hcall H T (hK.pEnters _ _ _ hkp)
    have hcallof := hcall
    have hcall := hK.pSound _ _ _ _ hkp B w0 M0 s.h w ρ M _ H hargs
    unfold wpListIn
    rw [if_pos hw]
    refine wpIn_of (callOf_notDefer hcallof) ?_
    unfold Oper.wp
    rw [hexec]
    refine hcall.mono fun e w' hpost => ?_
    obtain ⟨rfl, M', hM, H'⟩ := hpost
    cases b with
    | true => exact hk _ _ w' ρ M' (he.1 rfl) (Loc.le_refl _) hM H' (T.put (Loc.le_refl _) hM (by simp only [repS, rep]; exact ⟨[], rfl, by simp [repL]⟩))
    | false => exact hpan _ _ w' M' hpk (he.2 rfl) hM H' ⟨T.len, T.defers, fun i => repS_mono (Loc.le_refl _) hM (T.at_ i)⟩
  · rename_i b x y hpk
    obtain ⟨g, args, hcall, hkb⟩ := branchy_inv hpk
    simp only at hkb
    obtain ⟨vs, hargs, hexec⟩ := callOf_run (E := E) hdt hcall H T (hK.bEnters _ _ _ _ _ hkb)
    obtain ⟨x1, e1, n1⟩ := x
    obtain ⟨x2, e2, n2⟩ := y
    have hs := hK.bSound _ _ _ _ _ _ _ _ _ _ _ hkb
    have key : ∀ (z : AV) (effs : Eff), KSound E.P g args s.h s.h.length z effs → (k ⟨putS ops s.t o.dst (ungrd [] z), applyEff s.h effs⟩).All PQ → wpListIn (wR ro) 0 E.P ops.toArray Q (o :: l) a w := by
      intro z effs hks hall
      have hcl := hks B w0 M0 s.h w ρ M _ H (fun _ _ => rfl) (fun p _ hp => H.fresh _ hp) hargs
      unfold wpListIn
      rw [if_pos hw]
      refine wpIn_of (callOf_notDefer hcall) ?_
      unfold Oper.wp
      rw [hexec]
      refine hcl.mono fun e w' hpost => ?_
      obtain ⟨v, ρ', M', rfl, h1, h2, h3, h4⟩ := hpost
      exact hk _ _ w' ρ' M' hall h1.1 h2 h3 (T.put h1.1 h2 (repS_clean h4))
    cases b with
    | true =>
      obtain ⟨hn, hall⟩ := needs_all (he.1 rfl)
      exact key x1 e1 (hs.1 rfl hn) hall
    | false =>
      obtain ⟨hn, hall⟩ := needs_all (he.2 rfl)
      exact key x2 e2 (hs.2 rfl hn) hall
  · split at he
    · rename_i x hy
      obtain ⟨c, f, id, hop, hf, hid, hE⟩ := yieldy_inv hy
      obtain ⟨x1, e1, n1⟩ := x
      obtain ⟨hn, hall⟩ := needs_all he
      unfold wpListIn
      rw [if_pos hw]
      refine yield_step hdt hop hf hid (hK.yOk _ _ _ _ hE hn) H T _ _ fun v w' ρ' M' h1 h2 h3 h4 => ?_
      exact hk _ _ w' ρ' M' hall h1.1 h2 h3 (T.put h1.1 h2 (repS_clean h4))
    · rename_i b x y hy
      obtain ⟨c, f, id, hop, hf, hid, hE⟩ := yieldy_inv hy
      obtain ⟨x1, e1, n1⟩ := x
      obtain ⟨x2, e2, n2⟩ := y
      have hs := hK.yOk _ _ _ _ hE
      unfold wpListIn
      rw [if_pos hw]
      cases b with
      | true =>
        obtain ⟨hn, hall⟩ := needs_all (he.1 rfl)
        refine yield_step hdt hop hf hid (hs.1 rfl hn) H T _ _ fun v w' ρ' M' h1 h2 h3 h4 => ?_
        exact hk _ _ w' ρ' M' hall h1.1 h2 h3 (T.put h1.1 h2 (repS_clean h4))
      | false =>
        obtain ⟨hn, hall⟩ := needs_all (he.2 rfl)
        refine yield_step hdt hop hf hid (hs.2 rfl hn) H T _ _ fun v w' ρ' M' h1 h2 h3 h4 => ?_
        exact hk _ _ w' ρ' M' hall h1.1 h2 h3 (T.put h1.1 h2 (repS_clean h4))
    · have hh : ∃ p s', stepR E ops dt { o with guard := none } s = some (p, s') ∧ (∀ q ∈ p, q) ∧ (k s').All PQ := by
        split at he
        · rename_i p s' h1
          obtain ⟨a1, a2⟩ := needs_all he
          exact ⟨_, s', h1, a1, a2⟩
        · exact he.elim
      obtain ⟨p, s', h1, hp, h2⟩ := hh
      refine wpListIn_stepR fun K hKK => ?_
      rw [if_pos hw]
      have := stepR_next (ro := ro) hK hdt h1 hp H T K Q fun v w' ρ' M' l1 l2 H' T' => hKK _ _ (hk v s' w' ρ' M' h2 l1 l2 H' T')
      exact wp_noguard this
theorem evSeq_sound (hK : KOk E) (PQ : Exit → St → Prop) (Q : Exit → Act → World → Prop) : ∀ (l : List Oper) (dt : List (Nat × Bool)) (s : St) (a : Act) (w : World) (ρ : Loc) (M : Mem), (∀ j w, (j, w) ∈ dt → yG ops.toArray a j w) → (evSeq E ops dt l s).All PQ → SimH B w0 M0 s.h w ρ M → SimT D ρ M (yG ops.toArray a) s.t a →
    (∀ e s' a' w' ρ' M', PQ e s' → ρ.le ρ' → M.le M' → SimH B w0 M0 s'.h w' ρ' M' → SimT D ρ' M' (yG ops.toArray a') s'.t a' → Q e a' w') → wpListIn (wR ro) 0 E.P ops.toArray Q l a w
  | [], dt, s, a, w, ρ, M, _, he, H, T, hQ => hQ .normal s a w ρ M he (Loc.le_refl _) (Mem.le_refl _) H T
  | o :: l, dt, s, a, w, ρ, M, hdt, he, H, T, hQ => by
    have run : ∀ dt', (∀ j w, (j, w) ∈ dt' → yG ops.toArray a j w) → (runU E ops dt' o s (evSeq E ops (keepDt ops o.dst dt') l)).All PQ → Region.wanted o (yielded ops.toArray a.tmps) = true → wpListIn (wR ro) 0 E.P ops.toArray Q (o :: l) a w := by
      intro dt' hdt' hall hw
      refine runU_sound hK hdt' hall H T hw (fun b pv w' M' _ hq hM H' T' => hQ _ s a w' ρ M' hq (Loc.le_refl _) hM H' T') ?_
      intro v s' w' ρ' M' h2 l1 l2 H' T'
      exact evSeq_sound hK PQ Q l _ s' _ w' ρ' M' (keepDt_hold hdt' o.dst v) h2 H' T' fun e'' s'' a'' w'' ρ'' M'' q k1 k2 => hQ e'' s'' a'' w'' ρ'' M'' q (Loc.le_trans l1 k1) (Mem.le_trans l2 k2)
    have skip : ∀ dt', (∀ j w, (j, w) ∈ dt' → yG ops.toArray a j w) → (evSeq E ops (keepDt ops o.dst dt') l (skipU ops o s)).All PQ → ¬ Region.wanted o (yielded ops.toArray a.tmps) = true → wpListIn (wR ro) 0 E.P ops.toArray Q (o :: l) a w := by
      intro dt' hdt' hall hw
      refine wpListIn_stepR fun K hKK => ?_
      rw [if_neg hw]
      exact hKK _ _ (evSeq_sound hK PQ Q l _ _ _ w ρ M (keepDt_hold hdt' o.dst undef) hall H (T.put (Loc.le_refl _) (Mem.le_refl _) (by simp [repS, rep])) hQ)
    simp only [evSeq] at he
    split at he
    · rename_i hg
      exact run dt hdt he (by simp [Region.wanted, hg])
    · rename_i j wt hg
      have hwant : ∀ b, yG ops.toArray a j b → (Region.wanted o (yielded ops.toArray a.tmps) = true ↔ b = wt) := by
        intro b hb
        simp only [Region.wanted, hg]
        simp only [yG] at hb
        rw [hb]
        simp
      split at he
      · rename_i v hv
        have hm : yG ops.toArray a j v := hdt j v (lookup_mem hv)
        split at he
        · rename_i hvw
          exact run dt hdt he ((hwant v hm).2 (by simpa using hvw))
        · rename_i hvw
          exact skip dt hdt he fun h => hvw (by simpa using (hwant v hm).1 h)
      · split at he
        · rename_i p s' h1
          obtain ⟨hp, h2⟩ := needs_all he
          refine wpListIn_stepR fun K hKK => stepR_sound hK hdt h1 hp H T K Q ?_
          intro v w' ρ' M' l1 l2 H' T'
          exact hKK _ _ (evSeq_sound hK PQ Q l _ s' _ w' ρ' M' (keepDt_hold hdt o.dst v) h2 H' T' fun e'' s'' a'' w'' ρ'' M'' q k1 k2 => hQ e'' s'' a'' w'' ρ'' M'' q (Loc.le_trans l1 k1) (Mem.le_trans l2 k2))
        · split at he
          · rename_i b hb
            have hslot : yG ops.toArray a j b := slotB_hold T hb
            have hdt' : ∀ j' w', (j', w') ∈ (j, b) :: dt → yG ops.toArray a j' w' := by
              intro j' w' hm
              rcases List.mem_cons.1 hm with h | h
              · simp only [Prod.mk.injEq] at h; obtain ⟨rfl, rfl⟩ := h; exact hslot
              · exact hdt j' w' h
            cases wt with
            | true =>
              simp only [if_true] at he
              cases b with
              | true => exact run _ hdt' (he.1 rfl) ((hwant _ hslot).2 rfl)
              | false => exact skip _ hdt' (he.2 rfl) fun h => by cases (hwant _ hslot).1 h
            | false =>
              simp only [Bool.false_eq_true, if_false] at he
              cases b with
              | true => exact skip _ hdt' (he.1 rfl) fun h => by cases (hwant _ hslot).1 h
              | false => exact run _ hdt' (he.2 rfl) ((hwant _ hslot).2 rfl)
          · exact he.elim
end

/-- All that a state stands for. -/
structure Sim (D : List Deferred) (B : Nat → Prop) (w0 : World) (M0 : Mem) (s : St) (a : Act) (w : World) (ρ : Loc) (M : Mem) : Prop where
  h : SimH B w0 M0 s.h w ρ M
  t : SimT D ρ M noG s.t a
theorem SimT.clean {ρ : Loc} {M : Mem} {G G' : Nat → Bool → Prop} {t : List AV} {a : Act} (T : SimT D ρ M G t a) : SimT D ρ M G' (t.map (ungrd [])) a := by
  refine ⟨by simp [T.len], T.defers, fun i => ?_⟩
  rw [map_getD _ rfl]
  exact repS_clean (by
    have := T.at_ i
    generalize t.getD i .unk = x at this ⊢
    cases x
    case grd => simp [rep]
    all_goals exact this)
def cleanS (s : St) : St := ⟨s.t.map (ungrd []), s.h⟩
/-- A region whose order is the text's. -/
def evRegion (E : Env) (ops : List Oper) (s : St) : Tree := (evSeq E ops [] ops (cleanS s)).bind fun e s' => .leaf e (cleanS s')
/-- The places below n stay. -/
def kept (n : Nat) (ρ ρ' : Loc) : Prop := ∀ id r, id < n → ρ id = some r → ρ' id = some r
theorem kept.of_le {n : Nat} {ρ ρ' : Loc} (h : ρ.le ρ') : kept n ρ ρ' := fun id r _ => h id r
theorem kept.refl (n : Nat) (ρ : Loc) : kept n ρ ρ := fun _ _ _ h => h
theorem kept.trans {n : Nat} {a b c : Loc} (h : kept n a b) (k : kept n b c) : kept n a c := fun id r hi e => k id r hi (h id r hi e)
theorem evRegion_sound {E : Env} {ro : Option Nat} {B : Nat → Prop} {w0 w : World} {M0 M : Mem} {ρ : Loc} {a : Act} (hK : KOk E) {id n : Nat} {l : List Oper} {s : St} {Q : Exit → St → Prop} (he : (evRegion E l s).All Q) (H : Sim D B w0 M0 s a w ρ M) :
    (Code.region id l.toArray false).wpIn (wR ro) 0 E.P (fun e a' w' => ∃ s' ρ' M', Q e s' ∧ kept n ρ ρ' ∧ M.le M' ∧ Sim D B w0 M0 s' a' w' ρ' M') a w := by
  refine wpIn_region_lit (evSeq_sound hK _ _ l [] _ a w ρ M (fun _ _ h => by cases h) (Tree.All_bind he) H.h H.t.clean ?_)
  intro e s' a' w' ρ' M' hq l1 l2 H' T'
  exact ⟨cleanS s', ρ', M', hq, .of_le l1, l2, ⟨H', T'.clean⟩⟩
end Go.Eng
