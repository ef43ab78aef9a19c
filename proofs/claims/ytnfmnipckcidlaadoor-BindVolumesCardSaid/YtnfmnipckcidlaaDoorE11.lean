/- The engine, part 10: code, functions. -/
import Derived.Test.YtnfmnipckcidlaaDoorE10
set_option linter.unusedVariables false
set_option linter.unusedSimpArgs false
namespace Go.Eng
open Go.RowKit (Below)
variable {D : List Deferred}

/-- Where a test has been decided its slot is told. -/
def setB (s : St) (c : Operand) (b : Bool) : St :=
  match c with
  | .tmp d => ⟨s.t.set d (.bool b), s.h⟩
  | _ => s
/-- The rows of loops: by the number of the block around: what the loop comes to from a state. -/
abbrev Loops := Nat → St → Option (St × List Nat × Tree)
def evReg (E : Env) (draw : Bool) (ops : List Oper) (s : St) : Tree := if draw then (match evDraw E ops s with
    | some ([], s') => .leaf .normal s'
    | some (p :: ps, s') => .need (p :: ps) (.leaf .normal s')
    | none => .fail) else evRegion E ops s
def evCode (E : Env) (L : Loops) : Nat → Nat → Code → St → Tree
  | 0, _, _, _ => .fail
  | n + 1, bid, c, s => match c with
    | .skip => .leaf .normal s
    | .region _ ops draw => evReg E draw ops.toList s
    | .seq x y => (evCode E L n bid x s).bind fun e s' => match e with
      | .normal => evCode E L n bid y s'
      | e => .leaf e s'
    | .cond c x y => match ungrd [] (opd s.t c) with
      | .bool b => .ask b (evCode E L n bid x (setB s c true)) (evCode E L n bid y (setB s c false))
      | _ => .fail
    | .block id x => (evCode E L n id x s).bind fun e s' => match e with
      | .exit i => if i = id then .leaf .normal s' else .leaf (.exit i) s'
      | e => .leaf e s'
    | .loop _ | .rangeFunc .. => match L bid s with
      | some (p, σ, T) => .same p σ s T
      | none => .fail
    | .exit id => .leaf (.exit id) s
    | .label _ => .leaf .normal s
    | .goto l => .leaf (.goto l) s
    | .ret => .leaf .ret s
    | .scope x => (evCode E L n bid x s).bind fun e s' => match e with
      | .goto l => match findLabel x l with
        | some rest => (evCode E L n bid rest s').bind fun e s'' => match e with
          | .goto _ => .fail
          | e => .leaf e s''
        | none => .fail
      | e => .leaf e s'
    | _ => .fail

/-- The mark that a range over a function leaves among the deferred calls. -/
abbrev markD (r : Nat) : Deferred := { target := .collected r, args := #[] }
/-- Marks have come to the deferred calls; their blocks are kept; what was kept is kept. -/
structure CtxLe (D : List Deferred) (B : Nat → Prop) (w0 : World) (M0 : Mem) (D' : List Deferred) (B' : Nat → Prop) (w0' : World) (M0' : Mem) : Prop where
  marks : ∃ rs : List Nat, D' = rs.map markD ++ D ∧ rs.Nodup ∧ ∀ r ∈ rs, B' r ∧ ¬ B r ∧ w0'.heap[r]? = some (.deferred (some []))
  sub : ∀ b, B b → B' b
  keeps : Keeps B w0 w0'
  mem : ∀ b o, B b → M0' b o = M0 b o
theorem CtxLe.refl (D : List Deferred) (B : Nat → Prop) (w0 : World) (M0 : Mem) : CtxLe D B w0 M0 D B w0 M0 := ⟨⟨[], rfl, List.nodup_nil, nofun⟩, fun _ h => h, Keeps.refl _ _, fun _ _ _ => rfl⟩
theorem CtxLe.trans {D D1 D2 : List Deferred} {B B1 B2 : Nat → Prop} {w w1 w2 : World} {M M1 M2 : Mem} (h : CtxLe D B w M D1 B1 w1 M1) (k : CtxLe D1 B1 w1 M1 D2 B2 w2 M2) : CtxLe D B w M D2 B2 w2 M2 := by
  obtain ⟨rs, h1, h2, h3⟩ := h.marks
  obtain ⟨qs, k1, k2, k3⟩ := k.marks
  refine ⟨⟨qs ++ rs, by rw [k1, h1]; simp, ?_, fun r hr => ?_⟩, fun b hb => k.sub b (h.sub b hb), h.keeps.trans (k.keeps.mono h.sub), fun b o hb => (k.mem b o (h.sub b hb)).trans (h.mem b o hb)⟩
  · rw [List.nodup_append]
    exact ⟨k2, h2, fun a ha b hb e => by subst e; exact (k3 a ha).2.1 (h3 a hb).1⟩
  · rcases List.mem_append.1 hr with hr | hr
    · exact ⟨(k3 r hr).1, fun hb => (k3 r hr).2.1 (h.sub r hb), (k3 r hr).2.2⟩
    · exact ⟨k.sub r (h3 r hr).1, (h3 r hr).2.1, (k.keeps.block r (h3 r hr).1).trans (h3 r hr).2.2⟩
/-- In a round the loop's record is kept. -/
def RoOk (ro : Option Nat) (B : Nat → Prop) (w0 : World) : Prop := ∀ l, ro = some l → B l ∧ ∃ r, w0.heap[l]? = some (.loop r)
theorem RoOk.le {ro : Option Nat} {D D' : List Deferred} {B B' : Nat → Prop} {w0 w0' : World} {M0 M0' : Mem} (h : RoOk ro B w0) (hc : CtxLe D B w0 M0 D' B' w0' M0') : RoOk ro B' w0' := fun l hl => by
  obtain ⟨h1, r, h2⟩ := h l hl
  exact ⟨hc.sub l h1, r, (hc.keeps.block l h1).trans h2⟩
def TrPost (k : Nat) (D : List Deferred) (B : Nat → Prop) (w0 : World) (M0 : Mem) (ρ : Loc) (M : Mem) (Q : Exit → St → Prop) : Exit → Act → World → Prop := fun e a' w' =>
  ∃ s' ρ' M' D' B' w0' M0', CtxLe D B w0 M0 D' B' w0' M0' ∧ Q e s' ∧ kept k ρ ρ' ∧ M.le M' ∧ Sim D' B' w0' M0' s' a' w' ρ' M'
theorem TrPost.then {k : Nat} {D D1 : List Deferred} {B B1 : Nat → Prop} {w0 w1 : World} {M0 M1 : Mem} {ρ ρ1 : Loc} {M Ma : Mem} {Q : Exit → St → Prop} {e : Exit} {a : Act} {w : World} (hc : CtxLe D B w0 M0 D1 B1 w1 M1) (hk : kept k ρ ρ1) (hM : M.le Ma)
    (h : TrPost k D1 B1 w1 M1 ρ1 Ma Q e a w) : TrPost k D B w0 M0 ρ M Q e a w := by
  obtain ⟨s', ρ', M', D', B', w0', M0', h1, h2, h3, h4, h5⟩ := h
  exact ⟨s', ρ', M', D', B', w0', M0', hc.trans h1, h2, hk.trans h3, Mem.le_trans hM h4, h5⟩
/-- From any memory that is as the state says the code comes to what Q says. -/
def Tr (P : Program) (k : Nat) (c : Code) (s : St) (Q : Exit → St → Prop) : Prop :=
  ∀ (ro : Option Nat) (D : List Deferred) (B : Nat → Prop) (w0 : World) (M0 : Mem) (a : Act) (w : World) (ρ : Loc) (M : Mem), RoOk ro B w0 → Sim D B w0 M0 s a w ρ M →
    c.wpIn (wR ro) 0 P (TrPost k D B w0 M0 ρ M Q) a w
theorem Tr.mono {P : Program} {k : Nat} {c : Code} {s : St} {Q Q' : Exit → St → Prop} (h : Tr P k c s Q) (hq : ∀ e s, Q e s → Q' e s) : Tr P k c s Q' := fun ro D B w0 M0 a w ρ M hro H =>
  wpIn_mono (h ro D B w0 M0 a w ρ M hro H) fun _ _ _ ⟨s', ρ', M', D', B', w0', M0', h0, h1, h2⟩ => ⟨s', ρ', M', D', B', w0', M0', h0, hq _ _ h1, h2⟩
/-- The loops of a piece of code do what is told of them. -/
def LoopsOk (P : Program) (k : Nat) (L : Loops) : Nat → Code → Prop
  | bid, .loop c => ∀ s p σ T, L bid s = some (p, σ, T) → ∀ Q, T.All Q → ∀ s', pull σ p s' = push σ p → Tr P k (.loop c) s' Q
  | bid, .rangeFunc f ps x y => ∀ s p σ T, L bid s = some (p, σ, T) → ∀ Q, T.All Q → ∀ s', pull σ p s' = push σ p → Tr P k (.rangeFunc f ps x y) s' Q
  | bid, .seq x y => LoopsOk P k L bid x ∧ LoopsOk P k L bid y
  | bid, .cond _ x y => LoopsOk P k L bid x ∧ LoopsOk P k L bid y
  | _, .block id x => LoopsOk P k L id x
  | bid, .scope x => LoopsOk P k L bid x
  | _, _ => True
theorem LoopsOk.rest {P : Program} {k : Nat} {L : Loops} {bid : Nat} : ∀ {c : Code} {l : Nat} {r : Code}, LoopsOk P k L bid c → findLabel c l = some r → LoopsOk P k L bid r
  | .seq x y, l, r, h, hf => by
    simp only [findLabel] at hf
    split at hf
    · rename_i r' hr
      injection hf with hf
      subst hf
      exact ⟨LoopsOk.rest h.1 hr, h.2⟩
    · exact LoopsOk.rest h.2 hf
  | .label l', l, r, _, hf => by
    simp only [findLabel] at hf
    split at hf
    · injection hf with hf; subst hf; trivial
    · cases hf
  | .skip, _, _, _, hf | .region .., _, _, _, hf | .cond .., _, _, _, hf | .block .., _, _, _, hf | .loop _, _, _, _, hf | .rangeFunc .., _, _, _, hf | .exit _, _, _, _, hf | .scope _, _, _, _, hf | .goto _, _, _, _, hf | .ret, _, _, _, hf | .refuse _, _, _, _, hf => by cases hf

theorem fenced_wR {ro : Option Nat} (P : Program) (m : Machine) : m.fenced P (wR ro) := fenced_wide P m
section
variable {E : Env} {L : Loops}
theorem SimT.setB {ρ : Loc} {M : Mem} {t : List AV} {h : List AObj} {a : Act} (T : SimT D ρ M noG t a) {c : Operand} {b : Bool} (hb : a.eval c = .bool b) : SimT D ρ M noG (Go.Eng.setB ⟨t, h⟩ c b).t a := by
  cases c with
  | tmp d =>
    refine ⟨by simp [Go.Eng.setB, T.len], T.defers, fun i => ?_⟩
    simp only [Go.Eng.setB]
    rw [set_getD]
    split
    · rename_i hd
      obtain ⟨rfl, _⟩ := hd
      exact hb
    · exact T.at_ i
  | _ => exact T
theorem evCode_sound (hK : KOk E) {k : Nat} : ∀ (n bid : Nat) (c : Code) (s : St) (Q : Exit → St → Prop), LoopsOk E.P k L bid c → (evCode E L n bid c s).All Q → Tr E.P k c s Q := by
  intro n
  induction n with
  | zero => intro bid c s Q _ h; exact h.elim
  | succ n ih =>
    intro bid c s Q hL h ro D B w0 M0 a w ρ M hro H
    have here : ∀ {e : Exit}, Q e s → TrPost k D B w0 M0 ρ M Q e a w := fun {e} hq => ⟨s, ρ, M, D, B, w0, M0, CtxLe.refl _ _ _ _, hq, .refl _ _, Mem.le_refl _, H⟩
    cases c with
    | skip => exact wpIn_skip (here h)
    | region id ops draw =>
      simp only [evCode] at h
      have hops : ops = ops.toList.toArray := by simp
      unfold evReg at h
      rw [hops]
      cases draw with
      | false =>
        refine wpIn_mono (evRegion_sound (ro := ro) (n := k) hK (by simpa using h) H) ?_
        rintro e a' w' ⟨s', ρ', M', h1, h2, h3, h4⟩
        exact ⟨s', ρ', M', D, B, w0, M0, CtxLe.refl _ _ _ _, h1, h2, h3, h4⟩
      | true =>
        simp only [if_true] at h
        have hh : ∃ p s', evDraw E ops.toList s = some (p, s') ∧ (∀ q ∈ p, q) ∧ Q .normal s' := by
          split at h
          · rename_i s' he; exact ⟨[], s', he, by simp, h⟩
          · rename_i p ps s' he; exact ⟨_, s', he, h.1, h.2⟩
          · exact h.elim
        obtain ⟨p, s', he, hp, hq⟩ := hh
        exact evDraw_sound (ro := ro) hK he hp H _ fun a' w' ρ' M' l1 l2 H' => ⟨s', ρ', M', D, B, w0, M0, CtxLe.refl _ _ _ _, hq, .of_le l1, l2, H'⟩
    | seq x y =>
      simp only [evCode] at h
      have h1 := ih bid x s _ hL.1 (Tree.All_bind h) ro D B w0 M0 a w ρ M hro H
      refine wpIn_seq (wpIn_mono h1 ?_)
      rintro e a1 w1 ⟨s1, ρ1, M1, D1, B1, w01, M01, hc, hq, l1, l2, H1⟩
      cases e with
      | normal =>
        simp only [Exit.then]
        exact wpIn_mono (ih bid y s1 Q hL.2 hq ro D1 B1 w01 M01 a1 w1 ρ1 M1 (hro.le hc) H1) fun e a2 w2 hp => hp.then hc l1 l2
      | _ => exact ⟨s1, ρ1, M1, D1, B1, w01, M01, hc, hq, l1, l2, H1⟩
    | cond c x y =>
      simp only [evCode] at h
      split at h
      · rename_i b hb
        have hv : a.eval c = .bool b := by
          have : rep ρ M noG (ungrd [] (opd s.t c)) (a.eval c) := by
            cases c with
            | tmp i =>
              have := H.t.at_ i
              simp only [opd]
              generalize s.t.getD i .unk = x at this ⊢
              cases x
              case grd => simp [ungrd, rep]
              all_goals exact this
            | const v =>
              have := rep_avOf ρ M noG v
              simp only [opd, Act.eval] at this ⊢
              generalize avOf v = x at this ⊢
              cases x
              case grd => simp [ungrd, rep]
              all_goals exact this
            | global g => simp [opd, ungrd, rep]
            | func f => simp only [opd, ungrd, rep, Act.eval]; exact ⟨[], rfl, by simp [repL]⟩
          rw [hb] at this
          simpa [rep] using this
        refine wpIn_cond_split hv (fun hbt => ?_) (fun hbf => ?_)
        · subst hbt
          refine ih bid x _ Q hL.1 (h.1 rfl) ro D B w0 M0 a w ρ M hro ⟨?_, SimT.setB (h := s.h) H.t hv⟩
          have : (setB s c true).h = s.h := by unfold setB; split <;> rfl
          rw [this]; exact H.h
        · subst hbf
          refine ih bid y _ Q hL.2 (h.2 rfl) ro D B w0 M0 a w ρ M hro ⟨?_, SimT.setB (h := s.h) H.t hv⟩
          have : (setB s c false).h = s.h := by unfold setB; split <;> rfl
          rw [this]; exact H.h
      · exact h.elim
    | block id x =>
      simp only [evCode] at h
      have h1 := ih id x s _ hL (Tree.All_bind h) ro D B w0 M0 a w ρ M hro H
      refine wpIn_block (wpIn_mono h1 ?_)
      rintro e a1 w1 ⟨s1, ρ1, M1, D1, B1, w01, M01, hc, hq, l1, l2, H1⟩
      cases e with
      | exit i =>
        simp only [Exit.inBlock] at hq ⊢
        split
        · rename_i hi; rw [if_pos hi] at hq; exact ⟨s1, ρ1, M1, D1, B1, w01, M01, hc, hq, l1, l2, H1⟩
        · rename_i hi; rw [if_neg hi] at hq; exact ⟨s1, ρ1, M1, D1, B1, w01, M01, hc, hq, l1, l2, H1⟩
      | _ => exact ⟨s1, ρ1, M1, D1, B1, w01, M01, hc, hq, l1, l2, H1⟩
    | loop x =>
      simp only [evCode] at h
      split at h
      · rename_i p σ T hT
        exact hL s p σ T hT Q h.2 s h.1 ro D B w0 M0 a w ρ M hro H
      · exact h.elim
    | rangeFunc f ps x y =>
      simp only [evCode] at h
      split at h
      · rename_i p σ T hT
        exact hL s p σ T hT Q h.2 s h.1 ro D B w0 M0 a w ρ M hro H
      · exact h.elim
    | exit id => exact wpIn_exit (here h)
    | label l => exact wpIn_label (here h)
    | goto l => exact wpIn_goto (here h)
    | ret => exact wpIn_ret (here h)
    | scope x =>
      simp only [evCode] at h
      have h1 := ih bid x s _ hL (Tree.All_bind h) ro D B w0 M0 a w ρ M hro H
      intro b kk cs hb0 hfn hroom
      have calm : ∀ {fr : Frame} {w : World}, (lone fr cs w).fenced E.P (wR ro) := fun {fr w} => fenced_wR _ _
      have sc : ∀ {a : Act} {w : World}, step E.P (lone (b.atR a (.code (.scope x) :: kk)) cs w) = .next (lone (b.atR a (.code x :: .inScope x :: kk)) cs w) := step_lone_go (by simp [stepG, stepG.exec, Frame.atR])
      have sci : ∀ {a : Act} {w : World}, step E.P (lone (b.atR a (.inScope x :: kk)) cs w) = .next (lone (b.atR a kk) cs w) := step_lone_go (by simp [stepG, stepG.exec, Frame.atR])
      have ext : ∀ i, exitTo i (.inScope x :: kk) = exitTo i kk := fun i => by simp [exitTo]
      obtain ⟨e, a1, w1, ⟨s1, ρ1, M1, D1, B1, w01, M01, hc, hq, l1, l2, H1⟩, harr⟩ := h1 b (.inScope x :: kk) cs hb0 hfn hroom
      cases e with
      | normal => exact ⟨.normal, a1, w1, ⟨s1, ρ1, M1, D1, B1, w01, M01, hc, hq, l1, l2, H1⟩, .head calm sc (StepsIn.trans harr (.one calm sci))⟩
      | exit id => exact ⟨.exit id, a1, w1, ⟨s1, ρ1, M1, D1, B1, w01, M01, hc, hq, l1, l2, H1⟩, fun k' hk => .head calm sc (harr.1 k' (by rw [ext]; exact hk)), fun hr hk => let ⟨k₁, q1, q2⟩ := harr.2 hr (by rw [ext]; exact hk); ⟨k₁, q1, .head calm sc q2⟩⟩
      | goto l =>
        simp only [] at hq
        split at hq
        · rename_i rest hf
          have hg : gotoIn l (.inScope x :: kk) = some (.code rest :: .inScope x :: kk) := by simp [gotoIn, hf]
          have h2 := ih bid rest s1 _ (LoopsOk.rest (k := k) (c := x) (bid := bid) (by exact hL) hf) (Tree.All_bind hq) ro D1 B1 w01 M01 a1 w1 ρ1 M1 (hro.le hc) H1
          obtain ⟨e2, a2, w2, hp2, harr2⟩ := h2 b (.inScope x :: kk) cs hb0 hfn hroom
          have st := StepsIn.head calm sc (harr.1 _ hg)
          cases e2 with
          | normal => exact ⟨.normal, a2, w2, hp2.then hc l1 l2, StepsIn.trans st (StepsIn.trans harr2 (.one calm sci))⟩
          | exit id => exact ⟨.exit id, a2, w2, hp2.then hc l1 l2, fun k' hk => st.trans (harr2.1 k' (by rw [ext]; exact hk)), fun hr hk => let ⟨k₁, q1, q2⟩ := harr2.2 hr (by rw [ext]; exact hk); ⟨k₁, q1, st.trans q2⟩⟩
          | goto l' => exact ((hp2.choose_spec.choose_spec.choose_spec.choose_spec.choose_spec.choose_spec.choose_spec).2.1 : False).elim
          | ret => exact ⟨_, a2, w2, hp2.then hc l1 l2, .of_steps st harr2⟩
          | panic ch => exact ⟨_, a2, w2, hp2.then hc l1 l2, .of_steps st harr2⟩
          | outgrown => exact ⟨_, a2, w2, hp2.then hc l1 l2, .of_steps (b := b) (k := kk) (cs := cs) (e := .outgrown) st harr2⟩
        · exact hq.elim
      | ret => exact ⟨_, a1, w1, ⟨s1, ρ1, M1, D1, B1, w01, M01, hc, hq, l1, l2, H1⟩, .of_steps (.one calm sc) harr⟩
      | panic ch => exact ⟨_, a1, w1, ⟨s1, ρ1, M1, D1, B1, w01, M01, hc, hq, l1, l2, H1⟩, .of_steps (.one calm sc) harr⟩
      | outgrown => exact ⟨_, a1, w1, ⟨s1, ρ1, M1, D1, B1, w01, M01, hc, hq, l1, l2, H1⟩, .of_steps (b := b) (k := kk) (cs := cs) (e := .outgrown) (.one calm sc) harr⟩
    | refuse why => exact h.elim
end

end Go.Eng
